/- Walks: each function answers as its model, printed by a program of ours. Conditions: the arguments read as they are given. -/
import Derived.Test.YtidkloialdageaaGreatDoorDTs
import Derived.Test.YtidkloialdageaaGreatDoorDM0
import Derived.Test.YtidkloialdageaaGreatDoorDW0
import Derived.Test.YtidkloialdageaaGreatDoorDW1
import Derived.Test.YtidkloialdageaaGreatDoorDW2
import Derived.Test.YtidkloialdageaaGreatDoorDW3
namespace Go.Sx
open Go Go.Proofs Go.Vm Rp
set_option linter.unusedVariables false
set_option linter.unusedSimpArgs false
variable {W W0 : CW} {K : List Nat}
theorem c225 {x0 v0_ x1 v1_ x2 v2_ r} (h0 : Rd W0 [0] [v0_] x0) (h1 : Rd W0 [0] [v1_] x1) (h2 : Rd W0 [0] [v2_] x2) (hm : Vm.spec_l3Part x0 x1 x2 = some r) : Q0 225 [v0_, v1_, v2_] W0 fun Wf v => ∃ u0_1 u0_2 u0_3 u0_4, v = .agg [vB r.Clash, u0_1, u0_2, u0_3, u0_4].toArray ∧ OwS Wf [31] [] [u0_1] r.Lines ∧ OwS Wf [32] [] [u0_2] r.Old ∧ OwS Wf [33] [] [u0_3] r.One ∧ OwS Wf [34] [] [u0_4] r.Two := by
 unfold Vm.spec_l3Part at hm
 refine CallR.of Tryz.func225 rfl rfl rfl rfl (sr (al 2 [vB false, .slice none 0 0, .slice none 0 0, .slice none 0 0, .slice none 0 0] fun g1 W1 l1 b1 => ?_))
 have a2 := l1.o
 refine nl (Cw.seq (Cw.block ?_))
 obtain ⟨K5, hK5, hm⟩ := jn_e hm
 refine Cw.join 7 13 [7] (fun l w => ∃ y3 W4, CW.w W4 = w ∧ Le [] W1 W4 ∧ l = [vB y3] ∧ K5 y3 = some r) ?_ ?_
 ·rintro _ _ σ ⟨y3, W4, rfl, l4, rfl, hm⟩
  rw [hK5] at hm
  have a6 := a2.n l4
  refine cn hm (fun hm => ?_) fun hm => ?_
  ·refine sr (Lw.t rfl (T.lit0 (α := Str) 3 []) ?_)
   rintro v9 _ ⟨W9, rfl, l9, o9⟩
   have a10 := a6.n l9
   refine mv v2_ rfl ?_
   obtain ⟨q12, e13, hm⟩ := ob hm
   refine Lw.t rfl (T.appP (α := Str) o9 (h2.ul a10) rfl rfl e13) ?_
   rintro v14 _ ⟨W14, rfl, l14, o14⟩
   have a16 := a10.t l14
   refine Lw.r rfl (R.bd (zs := [vB false, .slice none 0 0, .slice none 0 0, .slice none 0 0, .slice none 0 0]) (cs := [vB false, v14, .slice none 0 0, .slice none 0 0, .slice none 0 0]) [(1, v14)] rfl rfl rfl (bp_cons o14.oc rfl bp_nil)) (sta (((b1.up l4).up l9).up l14) (oc_cons rfl (oc_cons o14.oc (oc_cons rfl (oc_cons rfl (oc_cons rfl oc_nil))))) fun W18 l18 b18 => ?_)
   have a19 := a16.t l18
   refine nl ?_
   obtain ⟨W21, ew21, l21, o21⟩ := (o14.up l18).dyeO 31
   have a22 := a19.t l21
   cases hm
   rw [← ew21]
   exact Cw.ret (retA1 rfl (b18.up l21) (Res.mk a22 ⟨v14, .slice none 0 0, .slice none 0 0, .slice none 0 0, rfl, o21.s, (owsN []).sub rfl rfl, (owsN []).sub rfl rfl, (owsN []).sub rfl rfl⟩))
  ·refine sr (mv v2_ rfl (mv v0_ rfl (ca hm (fun _ => p98 (h2.ul a6) (h0.ul a6)) fun z26 W28 hm l28 => ?_)))
   have a29 := a6.n l28
   have b30 := (b1.up l4).up l28
   refine Nb rfl (cn hm (fun hm => ?_) fun hm => ?_)
   ·refine sr (Lw.t rfl (T.lit0 (α := Str) 4 []) ?_)
    rintro v32 _ ⟨W32, rfl, l32, o32⟩
    have a33 := a29.n l32
    refine mv v1_ rfl ?_
    obtain ⟨q35, e36, hm⟩ := ob hm
    refine Lw.t rfl (T.appP (α := Str) o32 (h1.ul a33) rfl rfl e36) ?_
    rintro v37 _ ⟨W37, rfl, l37, o37⟩
    have a39 := a33.t l37
    refine Lw.r rfl (R.bd (zs := [vB false, .slice none 0 0, .slice none 0 0, .slice none 0 0, .slice none 0 0]) (cs := [vB false, v37, .slice none 0 0, .slice none 0 0, .slice none 0 0]) [(1, v37)] rfl rfl rfl (bp_cons o37.oc rfl bp_nil)) (sta ((b30.up l32).up l37) (oc_cons rfl (oc_cons o37.oc (oc_cons rfl (oc_cons rfl (oc_cons rfl oc_nil))))) fun W41 l41 b41 => ?_)
    have a42 := a39.t l41
    refine nl ?_
    obtain ⟨W44, ew44, l44, o44⟩ := (o37.up l41).dyeO 31
    have a45 := a42.t l44
    cases hm
    rw [← ew44]
    exact Cw.ret (retA1 rfl (b41.up l44) (Res.mk a45 ⟨v37, .slice none 0 0, .slice none 0 0, .slice none 0 0, rfl, o44.s, (owsN []).sub rfl rfl, (owsN []).sub rfl rfl, (owsN []).sub rfl rfl⟩))
   ·refine sk (sr (Lw.t rfl (T.lit0 (α := Str) 5 []) ?_))
    rintro v47 _ ⟨W47, rfl, l47, o47⟩
    have a48 := a29.n l47
    refine mv v0_ rfl ?_
    obtain ⟨q50, e51, hm⟩ := ob hm
    refine Lw.t rfl (T.appP (α := Str) o47 (h0.ul a48) rfl rfl e51) ?_
    rintro v52 _ ⟨W52, rfl, l52, o52⟩
    have a54 := a48.t l52
    refine Lw.t rfl (T.lit0 (α := Str) 6 []) ?_
    rintro v56 _ ⟨W56, rfl, l56, o56⟩
    have a57 := a54.n l56
    refine mv v1_ rfl ?_
    obtain ⟨q60, e61, hm⟩ := ob hm
    refine Lw.t rfl (T.appP (α := Str) o56 (h1.ul a57) rfl rfl e61) ?_
    rintro v62 _ ⟨W62, rfl, l62, o62⟩
    have a64 := a57.t l62
    refine Lw.t rfl (T.lit0 (α := Str) 7 []) ?_
    rintro v67 _ ⟨W67, rfl, l67, o67⟩
    have a68 := a64.n l67
    refine mv v2_ rfl ?_
    obtain ⟨q72, e73, hm⟩ := ob hm
    refine Lw.t rfl (T.appP (α := Str) o67 (h2.ul a68) rfl rfl e73) ?_
    rintro v74 _ ⟨W74, rfl, l74, o74⟩
    have a76 := a68.t l74
    have o77 := (((o52.up l56).up l62).up l67).up l74
    have o78 := (o62.up l67).up l74
    refine Lw.r rfl (R.bd (zs := [vB false, .slice none 0 0, .slice none 0 0, .slice none 0 0, .slice none 0 0]) (cs := [vB true, .slice none 0 0, v52, v62, v74]) [(0, vB true), (2, v52), (3, v62), (4, v74)] rfl rfl rfl (bp_cons rfl rfl (bp_cons o77.oc rfl (bp_cons o78.oc rfl (bp_cons o74.oc rfl bp_nil))))) (sta ((((((b30.up l47).up l52).up l56).up l62).up l67).up l74) (oc_cons rfl (oc_cons rfl (oc_cons o77.oc (oc_cons o78.oc (oc_cons o74.oc oc_nil))))) fun W80 l80 b80 => ?_)
    have a81 := a76.t l80
    refine nl ?_
    obtain ⟨W85, ew85, l85, o85⟩ := (o77.up l80).dyeO 32
    have a86 := a81.t l85
    obtain ⟨W90, ew90, l90, o90⟩ := ((o78.up l80).up l85).dyeO 33
    have a91 := a86.t l90
    obtain ⟨W95, ew95, l95, o95⟩ := (((o74.up l80).up l85).up l90).dyeO 34
    have a96 := a91.t l95
    cases hm
    rw [← ew95.trans (ew90.trans (ew85))]
    exact Cw.ret (retA1 rfl (((b80.up l85).up l90).up l95) (Res.mk a96 ⟨.slice none 0 0, v52, v62, v74, rfl, (owsN []).sub rfl rfl, ((o85.up l90).up l95).s, (o90.up l95).s, o95.s⟩))
 ·refine sr (mv v1_ rfl (mv v0_ rfl (ca hm (fun _ => p98 (h1.ul a2) (h0.ul a2)) fun z102 W104 hm l104 => ?_)))
  have a105 := a2.n l104
  refine Nb rfl (cn hm (fun hm => ?_) fun hm => ?_)
  ·exact sk ((ag) ⟨z102, W104, rfl, l104, rfl, hm⟩)
  ·exact rg (mv v1_ rfl (mv v2_ rfl (ca hm (fun _ => p98 (h1.ul a105) (h2.ul a105)) fun z110 W112 hm l112 => Nb rfl ((ag) ⟨z110, W112, rfl, (l104.j l112).w, rfl, hm⟩))))
theorem p225 {x0 v0_ x1 v1_ x2 v2_ k0 k1 k2 k3 r} (h0 : Rd W K [v0_] x0) (h1 : Rd W K [v1_] x1) (h2 : Rd W K [v2_] x2) (hm : Vm.spec_l3Part x0 x1 x2 = some r) : Q1 225 [v0_, v1_, v2_] W [] fun W' v => ∃ u0_1 u0_2 u0_3 u0_4, v = .agg [vB r.Clash, u0_1, u0_2, u0_3, u0_4].toArray ∧ Ow W' k0 [] [u0_1] r.Lines ∧ Ow W' k1 [] [u0_2] r.Old ∧ Ow W' k2 [] [u0_3] r.One ∧ Ow W' k3 [] [u0_4] r.Two :=
 CallR.adJ (J := []) (fun c => bif Nat.beq c 0 then 0 else bif Nat.beq c 31 then k0 else bif Nat.beq c 32 then k1 else bif Nat.beq c 33 then k2 else bif Nat.beq c 34 then k3 else 0) (c225 (h0.view _) (h1.view _) (h2.view _) hm) fun _ _ ⟨u0_1, u0_2, u0_3, u0_4, e, f0, f1, f2, f3⟩ => ⟨u0_1, u0_2, u0_3, u0_4, e, f0.one1.backN rfl, f1.one1.backN rfl, f2.one1.backN rfl, f3.one1.backN rfl⟩
theorem c224 {x0 v0_ x1 v1_1_ v1_2_ v1_3_ v1_4_ r} (h0 : Ow W0 2 [] [v0_] x0) (h1_1 : Ow W0 3 [] [v1_1_] x1.Lines) (h1_2 : Ow W0 4 [] [v1_2_] x1.Old) (h1_3 : Ow W0 5 [] [v1_3_] x1.One) (h1_4 : Ow W0 6 [] [v1_4_] x1.Two) (hm : Vm.spec_l3Put x0 x1 = some r) : Q0 224 [v0_, .agg [vB x1.Clash, v1_1_, v1_2_, v1_3_, v1_4_].toArray] W0 fun Wf v => ∃ u0, v = u0 ∧ OwS Wf [31] [] [u0] r := by
 unfold Vm.spec_l3Put at hm
 refine CallR.of Tryz.func224 rfl rfl rfl rfl (sr (bo 7 rfl fun g1 W1 l1 b1 => ?_))
 have a2 := l1.o
 refine Nv (.slice none 0 0) rfl (sr (mv v0_ rfl (Lw.ln x0 (h0.up l1).rd rfl (Ni rfl (Cw.seq ?_)))))
 obtain ⟨K10, hK10, hm⟩ := jn_e hm
 refine Cw.join 8 16 [16] (fun l w => ∃ y8 W9, CW.w W9 = w ∧ Le [] W1 W9 ∧ l = [vB y8] ∧ K10 y8 = some r) ?_ ?_
 ·rintro _ _ σ ⟨y8, W9, rfl, l9, rfl, hm⟩
  rw [hK10] at hm
  have a11 := a2.n l9
  have o12 := (h0.up l1).up l9
  refine cn hm (fun hm => ?_) fun hm => ?_
  ·refine sr (mv v0_ rfl (Nv v0_ rfl ?_))
   obtain ⟨W19, ew19, l19, o19⟩ := o12.dyeO 31
   have a20 := a11.t l19
   cases hm
   rw [← ew19]
   exact Cw.ret (ret1 rfl (Res.mk a20 ⟨v0_, rfl, o19.s⟩))
  ·refine sk (Cw.seq ?_)
   obtain ⟨K28, hK28, hm⟩ := jn_e hm
   refine Cw.join 18 33 [33] (fun l w => ∃ y26 W27, CW.w W27 = w ∧ Le [] W9 W27 ∧ l = [vB y26] ∧ K28 y26 = some r) ?_ ?_
   ·rintro _ _ σ ⟨y26, W27, rfl, l27, rfl, hm⟩
    rw [hK28] at hm
    have a29 := a11.n l27
    have o31 := ((h1_1.up l1).up l9).up l27
    have b35 := (b1.up l9).up l27
    refine cn hm (fun hm => ?_) fun hm => ?_
    ·refine Cw.seq (Cw.draw [] [(0, 0), (1, 0), (2, 0), (3, 0), (4, 0), (5, 0), (6, 0), (7, 0), (8, 1), (9, 0), (10, 1), (11, 3), (12, 0), (13, 0), (14, 3)] mixed (by kernel_rfl) fun W37 l37 => ?_)
     have a38 := a29.n l37
     have o39 := (o12.up l27).up l37
     refine Dv v0_ rfl (Di rfl (Mw.p rfl rfl (fun _ => R.sub rfl rfl) (Dv v0_ rfl (Di rfl (Mw.p rfl rfl (fun _ => R.sub rfl rfl) ?_)))))
     obtain ⟨u45, e46, hm⟩ := ob hm
     refine Mw.p rfl rfl (fun _ => R.ix (α := Part) o39.rd e46 rfl rfl rfl) (Df rfl ?_)
     obtain ⟨v47, c48, r49⟩ := (Part.at1 (o39.rd.at_ e46)).cell rfl
     refine Mw.q rfl rfl (fun _ c => R.ld rfl rfl (cl_cell (Part.at1 (o39.rd.at_ e46)).1 rfl c48 c)) (Dfl (b35.up l37) rfl rfl rfl ?_)
     obtain ⟨W50, ew50, l50, o50, oh50⟩ := Ow.take (α := Part) (β := List Str) (j := 8) (jf := 1) o39 e46 c48 rfl
     rw [← ew50]
     have a51 := a38.t l50
     obtain ⟨q57, e58, hm⟩ := ob hm
     refine Mw.l rfl rfl (T.appP (α := Str) o50 ((o31.up l37).up l50).rd rfl rfl e58) ?_
     rintro v59 _ ⟨W59, rfl, l59, o59⟩
     have a60 := a51.t l59
     obtain ⟨u66, e67, hm⟩ := ob hm
     refine Mw.p rfl rfl (fun _ => R.ix (α := Part) o39.rd e67 rfl rfl rfl) (Df rfl ?_)
     obtain ⟨q69, e70, hm⟩ := ob hm
     refine Mw.lu rfl (T.stH (α := Part) (β := List Str) (J := [8]) (oh50.up (l59.sub (M := [8]) rfl) rfl) o59.s e70 rfl rfl rfl rfl) ?_
     rintro _ _ ⟨W68, rfl, l68, o68⟩
     have a71 := a60.t l68
     refine Mw.nil (sr (mv v0_ rfl (Nv v0_ rfl ?_)))
     obtain ⟨W77, ew77, l77, o77⟩ := o68.dyeO 31
     have a78 := a71.t l77
     cases hm
     rw [← ew77]
     exact Cw.ret (ret1 rfl (Res.mk a78 ⟨v0_, rfl, o77.s⟩))
    ·refine sk (sr (mv v0_ rfl (la b35 (Lw.t rfl (T.bs 9 [.agg [vB x1.Clash, v1_1_, v1_2_, v1_3_, v1_4_].toArray] (cs := [vB x1.Clash, v1_1_, v1_2_, v1_3_, v1_4_]) rfl rfl (bsA rfl)) ?_))))
     rintro _ _ ⟨g84, W84, rfl, rfl, l84, b84⟩
     have a85 := a29.n l84
     obtain ⟨q92, e93, hm⟩ := ob hm
     refine Lw.t rfl (T.app1 (α := Part) (J := [3, 4, 5, 6]) (K' := []) ((o12.up l27).up l84) b84 (Part.own x1.Clash x1.Lines x1.Old x1.One x1.Two (o31.up l84).s ((((h1_2.up l1).up l9).up l27).up l84).s ((((h1_3.up l1).up l9).up l27).up l84).s ((((h1_4.up l1).up l9).up l27).up l84).s) rfl rfl e93) ?_
     rintro v94 _ ⟨W94, rfl, l94, o94⟩
     have a95 := a85.t l94
     refine Nv v94 rfl ?_
     obtain ⟨W98, ew98, l98, o98⟩ := o94.dyeO 31
     have a99 := a95.t l98
     cases hm
     rw [← ew98]
     exact Cw.ret (ret1 rfl (Res.mk a99 ⟨v94, rfl, o98.s⟩))
   ·refine rg (mi rfl (Lw.gt rfl (mb rfl (bs hm (fun hc102 hm => ?_) fun hc102 hm => ?_))))
    ·refine wak 3 hc102 (fl (b1.up l9) rfl (Lw.r rfl (R.not rfl) (Pb hc102 rfl (mb rfl (bs hm (fun hc103 hm => ?_) fun hc103 hm => ?_)))))
     ·refine wak 7 hc103 (mv v0_ rfl (mi rfl (Lw.sub rfl ?_)))
      obtain ⟨u104, e105, hm⟩ := ob hm
      exact Lw.r rfl (R.ix (α := Part) o12.rd e105 rfl rfl rfl) (Lw.fa rfl (Lw.r rfl (R.ld rfl rfl (Part.at0 (o12.rd.at_ e105)).bool) (Lw.r rfl (R.not rfl) (Pb hc103 rfl (nl ((ag) ⟨(!u104.Clash), W9, rfl, Le.refl _ _, rfl, hm⟩))))))
     ·exact psk 7 hc103 rfl (Pb hc103 rfl (nl ((ag) ⟨false, W9, rfl, Le.refl _ _, rfl, hm⟩)))
    ·exact psk 3 hc102 rfl (Pb hc102 rfl (mb rfl (psk 7 rfl rfl (Pb rfl rfl (nl ((ag) ⟨false, W9, rfl, Le.refl _ _, rfl, hm⟩))))))
 ·refine rg (fl b1 rfl (Lw.r rfl (R.not rfl) (mb rfl (bs hm (fun hc106 hm => ?_) fun hc106 hm => ?_))))
  ·exact wak 4 hc106 (fl b1 rfl (Lw.ln x1.Lines (h1_1.up l1).rd rfl (Lw.eq rfl (Pb hc106 rfl (nl ((ag) ⟨(((x1.Lines.length : Int) : Int) == (0 : Int)), W1, rfl, Le.refl _ _, rfl, hm⟩))))))
  ·exact psk 4 hc106 rfl (Pb hc106 rfl (nl ((ag) ⟨false, W1, rfl, Le.refl _ _, rfl, hm⟩)))
theorem p224 {x0 v0_ x1 v1_1_ v1_2_ v1_3_ v1_4_ k0 c0 c1 c2 c3 c4 r} (h0 : Ow W c0 [] [v0_] x0) (h1_1 : Ow W c1 [] [v1_1_] x1.Lines) (h1_2 : Ow W c2 [] [v1_2_] x1.Old) (h1_3 : Ow W c3 [] [v1_3_] x1.One) (h1_4 : Ow W c4 [] [v1_4_] x1.Two) (hJ : okJ K [c0, c1, c2, c3, c4] = true) (hm : Vm.spec_l3Put x0 x1 = some r) : Q1 224 [v0_, .agg [vB x1.Clash, v1_1_, v1_2_, v1_3_, v1_4_].toArray] W [c0, c1, c2, c3, c4] fun W' v => ∃ u0, v = u0 ∧ Ow W' k0 [] [u0] r :=
 CallR.adJ (J := [c0, c1, c2, c3, c4]) (fun c => bif Nat.beq c 0 then 0 else bif Nat.beq c 2 then c0 else bif Nat.beq c 3 then c1 else bif Nat.beq c 4 then c2 else bif Nat.beq c 5 then c3 else bif Nat.beq c 6 then c4 else bif Nat.beq c 31 then k0 else 0) (c224 (h0.viewJ 0 hJ) (h1_1.viewJ 1 hJ) (h1_2.viewJ 2 hJ) (h1_3.viewJ 3 hJ) (h1_4.viewJ 4 hJ) hm) fun _ _ ⟨u0, e, f0⟩ => ⟨u0, e, f0.one1.backN rfl⟩
theorem c223 {x0 v0_ x1 v1_ x2 v2_ r} (h0 : Rd W0 [0] [v0_] x0) (h1 : Rd W0 [0] [v1_] x1) (h2 : Rd W0 [0] [v2_] x2) (hm : Vm.spec_l3Of x0 x1 x2 = some r) : Q0 223 [v0_, v1_, v2_] W0 fun Wf v => ∃ u0, v = u0 ∧ OwS Wf LL [] [u0] r := by
 unfold Vm.spec_l3Of at hm
 refine CallR.of Tryz.func223 rfl rfl rfl rfl (sr (Nv (.slice none 0 0) rfl (sr (Lw.t rfl (T.lit0 (α := Part) 2 []) ?_))))
 rintro v1 _ ⟨W1, rfl, l1, o1⟩
 have a2 := l1.o
 refine Nv v1 rfl (sr (mv v0_ rfl (mv v1_ rfl (cr hm (fun _ => p122 (k0 := 3) (h0.ul a2) (h1.ul a2)) ?_))))
 rintro z5 v0_7 W7 hm l7 ⟨_, rfl, f7_0⟩
 have a8 := a2.n l7
 refine mv v1_ rfl (Lw.ln x1 (h1.ul a8) rfl (Lw.t rfl (T.bs 4 [vI (x1.length : Int)] (cs := [vI (x1.length : Int)]) rfl rfl (bsv rfl)) ?_))
 rintro _ _ ⟨g11, W11, rfl, rfl, l11, b11⟩
 have a12 := a8.n l11
 obtain ⟨q15, e16, hm⟩ := ob hm
 refine Lw.t rfl (T.app1S (α := Int) (K' := []) (f7_0.up l11) b11 (rdI _) rfl rfl e16) ?_
 rintro v17 _ ⟨W17, rfl, l17, o17⟩
 have a18 := a12.t l17
 refine Nv v17 rfl (sr (mv v0_ rfl (mv v2_ rfl (cr hm (fun _ => p122 (k0 := 5) (h0.ul a18) (h2.ul a18)) ?_))))
 rintro z23 v0_25 W25 hm l25 ⟨_, rfl, f25_0⟩
 have a26 := a18.n l25
 refine mv v2_ rfl (Lw.ln x2 (h2.ul a26) rfl (Lw.t rfl (T.bs 6 [vI (x2.length : Int)] (cs := [vI (x2.length : Int)]) rfl rfl (bsv rfl)) ?_))
 rintro _ _ ⟨g31, W31, rfl, rfl, l31, b31⟩
 have a32 := a26.n l31
 obtain ⟨q37, e38, hm⟩ := ob hm
 refine Lw.t rfl (T.app1S (α := Int) (K' := []) (f25_0.up l31) b31 (rdI _) rfl rfl e38) ?_
 rintro v39 _ ⟨W39, rfl, l39, o39⟩
 have a40 := a32.t l39
 refine Nv v39 rfl (sr (Ni rfl (sr (Ni rfl (sr (Ni rfl (ssr (Ni rfl (Cw.block ?_)))))))))
 obtain ⟨K53, hK53, hm⟩ := jn_e hm
 refine Cw.loop 29 91 [7, 10, 11, 12, 13] (fun m l w => ∃ y45 y48 y49 y50 y51 v46 W52, CW.w W52 = w ∧ Le [2, 7, 8, 9, 10, 11, 12, 13, 14, 15, 16] W39 W52 ∧ l = [v46, vI y48, vI y49, vI y50, vI y51] ∧ Ow W52 2 [] [v46] y45 ∧ Vm.spec_l3Of_l1 x0 x1 x2 q15 q37 K53 m y45 y48 y49 y50 y51 = some r) _ ⟨([] : List Part), 0, 0, 0, 0, v1, W39, rfl, Le.refl _ _, rfl, ((((((o1.up l7).up l11).up l17).up l25).up l31).up l39), hm⟩ ?_
 rintro (_ | m54) _ _ σ ⟨y45, y48, y49, y50, y51, v46, W52, rfl, l52, rfl, o47, hm⟩
 ·cases hm
 unfold Vm.spec_l3Of_l1 at hm
 have a55 := a40.t l52
 have o56 := (((o17.up l25).up l31).up l39).up l52
 have o57 := o39.up l52
 refine ssr (mi rfl (mv v17 rfl (Lw.ln q15 o56.rd rfl (Lw.lt rfl (nl (cn hm (fun hm => ?_) fun hm => ?_))))))
 ·refine sk ?_
  obtain ⟨K68, hK68, hm⟩ := jn_e hm
  refine Cw.join 35 91 [7, 10, 11, 12] (fun l w => ∃ y61 y64 y65 y66 v62 W67, CW.w W67 = w ∧ Le [2, 7, 8, 9, 10, 11, 12, 13, 14, 15, 16] W52 W67 ∧ l = [v62, vI y64, vI y65, vI y66] ∧ Ow W67 2 [] [v62] y61 ∧ K68 y61 y64 y65 y66 = some r) ?_ ?_
  ·rintro _ _ σ ⟨y61, y64, y65, y66, v62, W67, rfl, l67, rfl, o63, hm⟩
   rw [hK68] at hm
   exact rg (mi rfl (Lw.add rfl (Ni rfl ((agm) ⟨y61, y64, y65, y66, w64 (y51 + 1), v62, W67, rfl, (l52.j l67).w, rfl, o63, hm⟩))))
  ·refine Cw.block (Cw.seq ?_)
   obtain ⟨K76, hK76, hm⟩ := jn_e hm
   refine Cw.join 35 46 [46] (fun l w => ∃ y74 W75, CW.w W75 = w ∧ Le [] W52 W75 ∧ l = [vB y74] ∧ K76 y74 = some r) ?_ ?_
   ·rintro _ _ σ ⟨y74, W75, rfl, l75, rfl, hm⟩
    rw [hK76] at hm
    have a77 := a55.n l75
    refine cn hm (fun hm => ?_) fun hm => ?_
    ·exact Cw.exit ((ag) ⟨y45, y48, y49, y50, v46, W75, rfl, l75.w, rfl, (o47.up l75), hm⟩)
    ·refine sk (Cw.seq (Cw.draw [2, 7, 8, 9, 10] [(0, 0), (1, 0), (2, 0), (3, 0), (4, 0), (5, 0), (6, 0), (7, 0), (8, 0), (9, 0), (10, 1), (11, 0), (12, 0), (13, 0), (14, 0), (15, 0), (16, 0), (17, 1), (18, 0), (19, 2), (20, 2), (21, 0)] mixed (by kernel_rfl) fun W84 l84 => ?_))
     have a85 := a77.n l84
     have o87 := (o56.up l75).up l84
     have o88 := (o57.up l75).up l84
     refine Dv v46 rfl (Dv v0_ rfl (Di rfl (Di rfl ?_)))
     obtain ⟨q91, e92, hm⟩ := ob hm
     have r95 := (h0.ul a85).cutV e92
     refine Mw.p rfl rfl (fun _ => R.sl (h0.ul a85) e92 rfl (.inr rfl) (.inr rfl)) (Dv v1_ rfl (Di rfl (Dv v17 rfl (Di rfl ?_))))
     obtain ⟨u96, e97, hm⟩ := ob hm
     refine Mw.p rfl rfl (fun _ => R.ix (α := Int) o87.rd e97 rfl rfl rfl) (Mw.q rfl rfl (fun _ c => R.ld rfl rfl (cl_cell (o87.rd.at_ e97).1 rfl (o87.rd.at_ e97).int c)) ?_)
     obtain ⟨q98, e99, hm⟩ := ob hm
     have r102 := (h1.ul a85).cutV e99
     refine Mw.p rfl rfl (fun _ => R.sl (h1.ul a85) e99 rfl (.inr rfl) (.inr rfl)) (Dv v2_ rfl (Di rfl (Dv v39 rfl (Di rfl ?_))))
     obtain ⟨u103, e104, hm⟩ := ob hm
     refine Mw.p rfl rfl (fun _ => R.ix (α := Int) o88.rd e104 rfl rfl rfl) (Mw.q rfl rfl (fun _ c => R.ld rfl rfl (cl_cell (o88.rd.at_ e104).1 rfl (o88.rd.at_ e104).int c)) ?_)
     obtain ⟨q105, e106, hm⟩ := ob hm
     have r109 := (h2.ul a85).cutV e106
     refine Mw.p rfl rfl (fun _ => R.sl (h2.ul a85) e106 rfl (.inr rfl) (.inr rfl)) ?_
     obtain ⟨z110, e111, hm⟩ := ob hm
     refine Mw.t rfl rfl (T.call rfl (p225 (k0 := 7) (k1 := 8) (k2 := 9) (k3 := 10) r95 r102 r109 e111)) ?_
     rintro _ _ ⟨W112, rfl, l112, ⟨v0_1_112, v0_2_112, v0_3_112, v0_4_112, rfl, f112_0, f112_1, f112_2, f112_3⟩⟩
     have a113 := a85.n l112
     refine m0 l112 fun d112 => ?_
     obtain ⟨z119, e120, hm⟩ := ob hm
     refine Mw.t rfl rfl (T.call rfl (p224 (K := [0]) (k0 := 11) (c0 := 2) (c1 := 7) (c2 := 8) (c3 := 9) (c4 := 10) (x1 := (Vm.Part.mk z110.Clash z110.Lines z110.Old z110.One z110.Two)) (((o47.up l75).up l84).up l112) f112_0 f112_1 f112_2 f112_3 rfl e120)) ?_
     rintro v0_121 _ ⟨W121, rfl, l121, ⟨_, rfl, f121_0⟩⟩
     have a122 := a113.t l121
     refine mc d112 l121 fun d121 => Hv v0_121 rfl (Mw.nil ?_)
     obtain ⟨K131, hK131, hm⟩ := jn_e hm
     refine Cw.join 68 79 [7] (fun l w => ∃ y127 v128 W130, CW.w W130 = w ∧ Le [11, 12, 13, 14, 15, 16] W121 W130 ∧ l = [v128] ∧ Ow W130 11 [] [v128] y127 ∧ K131 y127 = some r) ?_ ?_
     ·rintro _ _ σ ⟨y127, v128, W130, rfl, l130, rfl, o129, hm⟩
      rw [hK131] at hm
      have o133 := ((o87.up l112).up l121).up l130
      have o134 := ((o88.up l112).up l121).up l130
      refine sr (mi rfl (Lw.add rfl (Ni rfl (sr (mv v17 rfl (mi rfl ?_))))))
      obtain ⟨u137, e138, hm⟩ := ob hm
      refine Lw.r rfl (R.ix (α := Int) o133.rd e138 rfl rfl rfl) (Lw.r rfl (R.ld rfl rfl (o133.rd.at_ e138).int) (Lw.add rfl (Ni rfl (rg (mv v39 rfl (mi rfl ?_))))))
      obtain ⟨u139, e140, hm⟩ := ob hm
      refine Lw.r rfl (R.ix (α := Int) o134.rd e140 rfl rfl rfl) (Lw.r rfl (R.ld rfl rfl (o134.rd.at_ e140).int) (Lw.add rfl (Ni rfl ?_)))
      obtain ⟨W141, ew141, l141, o141⟩ := o129.dyeO 2
      exact (ag) ⟨y127, w64 (y51 + 1), w64 (u137 + 1), w64 (u139 + 1), v128, W141, ew141, (((((l75.j l84).j l112).j l121).j l130).j l141).w, rfl, o141, hm⟩
     ·refine sr (mi rfl (mv v0_ rfl (Lw.ln x0 (h0.ul a122) rfl (Lw.lt rfl (nl (cn hm (fun hm => ?_) fun hm => ?_))))))
      ·refine rg (mv v0_121 rfl (mv v0_ rfl (mi rfl ?_)))
       obtain ⟨u149, e150, hm⟩ := ob hm
       refine Lw.r rfl (R.ix (α := Str) (h0.ul a122) e150 rfl rfl rfl) (Lw.r rfl (R.ld rfl rfl ((h0.ul a122).at_ e150).str) (Lw.t rfl (T.bsS (α := Str) (xs := [u149]) 12 [] (W := W121) [vS u149] (Each.cons ((rdS _)) Each.nil) rfl) ?_))
       rintro v151 _ ⟨W151, rfl, l151, o151⟩
       refine Lw.r rfl (R.bd (zs := [vB false, .slice none 0 0, .slice none 0 0, .slice none 0 0, .slice none 0 0]) (cs := [vB false, v151, .slice none 0 0, .slice none 0 0, .slice none 0 0]) [(1, v151)] rfl rfl rfl (bp_cons o151.oc rfl bp_nil)) (cr hm (fun _ => p224 (K := [0]) (k0 := 16) (c0 := 11) (c1 := 12) (c2 := 13) (c3 := 14) (c4 := 15) (x1 := (Vm.Part.mk false ([u149] : List Str) ([] : List Str) ([] : List Str) ([] : List Str))) (f121_0.up l151) o151 (owN 13 []) (owN 14 []) (owN 15 []) rfl) ?_)
       rintro z158 v0_160 W160 hm l160 ⟨_, rfl, f160_0⟩
       refine Nv v0_160 rfl ?_
       obtain ⟨W166, ew166, l166, o166⟩ := f160_0.dyeO 11
       exact (ag) ⟨z158, v0_160, W166, ew166, ((l151.j l160).j l166).w, rfl, o166, hm⟩
      ·exact sk ((ag) ⟨z119, v0_121, W121, rfl, Le.refl _ _, rfl, f121_0, hm⟩)
   ·refine rg (mv v17 rfl (mi rfl ?_))
    obtain ⟨u172, e173, hm⟩ := ob hm
    refine Lw.r rfl (R.ix (α := Int) o56.rd e173 rfl rfl rfl) (Lw.r rfl (R.ld rfl rfl (o56.rd.at_ e173).int) (Lw.lt rfl (mb rfl (bs hm (fun hc174 hm => ?_) fun hc174 hm => ?_))))
    ·exact psk 5 hc174 rfl (Pb hc174 rfl (nl ((ag) ⟨true, W52, rfl, Le.refl _ _, rfl, hm⟩)))
    ·refine wak 5 hc174 (mv v39 rfl (mi rfl ?_))
     obtain ⟨u175, e176, hm⟩ := ob hm
     exact Lw.r rfl (R.ix (α := Int) o57.rd e176 rfl rfl rfl) (Lw.r rfl (R.ld rfl rfl (o57.rd.at_ e176).int) (Lw.lt rfl (Pb hc174 rfl (nl ((ag) ⟨decide ((u175 : Int) < (0 : Int)), W52, rfl, Le.refl _ _, rfl, hm⟩)))))
 ·refine Cw.exit ?_
  rw [hK53] at hm
  refine sr (mv v46 rfl (Nv v46 rfl ?_))
  cases hm
  exact Cw.ret (ret1 rfl (Res.mk a55 ⟨v46, rfl, o47.s.sub rfl rfl⟩))
theorem p223 {x0 v0_ x1 v1_ x2 v2_ k0 r} (h0 : Rd W K [v0_] x0) (h1 : Rd W K [v1_] x1) (h2 : Rd W K [v2_] x2) (hm : Vm.spec_l3Of x0 x1 x2 = some r) : Q1 223 [v0_, v1_, v2_] W [] fun W' v => ∃ u0, v = u0 ∧ Ow W' k0 [] [u0] r :=
 (c223 (h0.view _) (h1.view _) (h2.view _) hm).ad (fk k0) fun _ _ ⟨u0, e, f0⟩ => ⟨u0, e, f0.back (fk_LL _)⟩
theorem c222 {x0 v0_ r} (h0 : Rd W0 [0] [v0_] x0) (hm : Vm.spec_l3Text x0 = some r) : Q0 222 [v0_] W0 fun Wf v => ∃ u0, v = .tuple [u0, vB r.2].toArray ∧ OwS Wf LL [] [u0] r.1 := by
 unfold Vm.spec_l3Text at hm
 refine CallR.of Tryz.func222 rfl rfl rfl rfl (sr (Gv (.slice none 0 0) rfl (Nb rfl (sr (Lw.t rfl (T.lit0 (α := Str) 2 []) ?_)))))
 rintro v1 _ ⟨W1, rfl, l1, o1⟩
 have a2 := l1.o
 refine Nv v1 rfl (ssr (Ni rfl (Cw.block ?_)))
 obtain ⟨K12, hK12, hm⟩ := jn_e hm
 refine Cw.loop 7 24 [2, 3, 4, 5] (fun m l w => ∃ y3 y6 y7 y10 v4 v8 W11, CW.w W11 = w ∧ Le [2] W1 W11 ∧ l = [v4, vB y6, v8, vI y10] ∧ Ow W11 3 [] [v4] y3 ∧ Ow W11 2 [] [v8] y7 ∧ Vm.spec_l3Text_l1 x0 K12 m y3 y6 y7 y10 = some r) _ ⟨([] : List Str), false, ([] : List Str), 0, .slice none 0 0, v1, W1, rfl, Le.refl _ _, rfl, owN 3 [], o1, hm⟩ ?_
 rintro (_ | m13) _ _ σ ⟨y3, y6, y7, y10, v4, v8, W11, rfl, l11, rfl, o5, o9, hm⟩
 ·cases hm
 unfold Vm.spec_l3Text_l1 at hm
 have a14 := a2.t l11
 refine ssr ?_
 have s15 := h0.ul a14
 refine mi rfl (mv v0_ rfl (Lw.ln x0 s15 rfl (Lw.lt rfl (nl (cn hm (fun hm => ?_) fun hm => ?_)))))
 ·refine sk (Cw.seq (Cw.block (ssr (mv v0_ rfl (mi rfl ?_)))))
  obtain ⟨u17, e18, hm⟩ := ob hm
  refine Lw.r rfl (R.ix (α := Part) s15 e18 rfl rfl rfl) (Lw.fa rfl (Lw.r rfl (R.ld rfl rfl (Part.at0 (s15.at_ e18)).bool) (nl (cn hm (fun hm => ?_) fun hm => ?_))))
  ·refine sr (Gv (.slice none 0 0) rfl (Nb rfl ?_))
   cases hm
   exact Cw.ret (ret2 rfl rfl (Res.mk a14 ⟨.slice none 0 0, rfl, (owsN []).sub rfl rfl⟩))
  ·refine sk (rg (mv v8 rfl (mv v0_ rfl (mi rfl ?_))))
   obtain ⟨u20, e21, hm⟩ := ob hm
   refine Lw.r rfl (R.ix (α := Part) s15 e21 rfl rfl rfl) (Lw.fa rfl ?_)
   obtain ⟨v22, c23, r24⟩ := (Part.at1 (s15.at_ e21)).cell rfl
   refine Lw.r rfl (R.ld rfl rfl c23) ?_
   obtain ⟨q25, e26, hm⟩ := ob hm
   refine Lw.t rfl (T.appP (α := Str) o9 r24 rfl rfl e26) ?_
   rintro v27 _ ⟨W27, rfl, l27, o27⟩
   exact Nv v27 rfl (rg (mi rfl (Lw.add rfl (Ni rfl ((agm) ⟨y3, y6, q25, w64 (y10 + 1), v4, v27, W27, rfl, (l11.j l27).w, rfl, (o5.up l27), o27, hm⟩)))))
 ·refine Cw.exit ?_
  rw [hK12] at hm
  refine ssr (mv v8 rfl (ca hm (fun _ => p164 (K := [2]) o9.rd) fun z30 W32 hm l32 => ?_))
  have a33 := a14.n l32
  refine Lw.r rfl (R.not rfl) (nl (cn hm (fun hm => ?_) fun hm => ?_))
  ·refine sr (Gv (.slice none 0 0) rfl (Nb rfl ?_))
   cases hm
   exact Cw.ret (ret2 rfl rfl (Res.mk a33 ⟨.slice none 0 0, rfl, (owsN []).sub rfl rfl⟩))
  ·refine sk (sr (mv v8 rfl (Gv v8 rfl (Nb rfl ?_))))
   cases hm
   exact Cw.ret (ret2 rfl rfl (Res.mk a33 ⟨v8, rfl, (o9.up l32).s.sub rfl rfl⟩))
theorem p222 {x0 v0_ k0 r} (h0 : Rd W K [v0_] x0) (hm : Vm.spec_l3Text x0 = some r) : Q1 222 [v0_] W [] fun W' v => ∃ u0, v = .tuple [u0, vB r.2].toArray ∧ Ow W' k0 [] [u0] r.1 :=
 (c222 (h0.view _) hm).ad (fk k0) fun _ _ ⟨u0, e, f0⟩ => ⟨u0, e, f0.back (fk_LL _)⟩
theorem c219 {x0 v0_ x1 v1_ x2 v2_ x3 r} (h0 : Rd W0 [0] [v0_] x0) (h1 : Rd W0 [0] [v1_] x1) (h2 : Rd W0 [0] [v2_] x2) (hm : Vm.spec_l6One x0 x1 x2 x3 = some r) : Q0 219 [v0_, v1_, v2_, vS x3] W0 fun Wf v => ∃ u0, v = .tuple [u0, vB r.2.1, vI r.2.2].toArray ∧ Rd Wf [0] [u0] r.1 := by
 unfold Vm.spec_l6One at hm
 refine CallR.of Tryz.func219 rfl rfl rfl rfl (sr (Gv (.slice none 0 0) rfl (Gb rfl (Ni rfl (sr (mv v0_ rfl (ms rfl (cr hm (fun _ => p121 h0) ?_))))))))
 rintro z1 _ W3 hm l3 ⟨v0_3, rfl, f3_0⟩
 have s4 := f3_0.sub (M := [0]) rfl
 have a5 := l3.o
 refine mv (.tuple [v0_3, vB z1.2].toArray) rfl (Lw.r rfl (R.ext (vs := [v0_3, vB z1.2]) (v := v0_3) rfl rfl) (Lw.r rfl (R.ext (vs := [v0_3, vB z1.2]) (v := vB z1.2) rfl rfl) (Gv v0_3 rfl (Nb rfl (sr (mv v1_ rfl (ms rfl (cr hm (fun _ => p121 (h1.ul a5)) ?_))))))))
 rintro z7 _ W9 hm l9 ⟨v0_9, rfl, f9_0⟩
 have s10 := f9_0.sub (M := [0]) rfl
 have a11 := l9.o
 refine mv (.tuple [v0_9, vB z7.2].toArray) rfl (Lw.r rfl (R.ext (vs := [v0_9, vB z7.2]) (v := v0_9) rfl rfl) (Lw.r rfl (R.ext (vs := [v0_9, vB z7.2]) (v := vB z7.2) rfl rfl) (Gv v0_9 rfl (Nb rfl (sr (mv v2_ rfl (ms rfl (cr hm (fun _ => p121 (h2.ul (a5.trans a11))) ?_))))))))
 rintro z13 _ W15 hm l15 ⟨v0_15, rfl, f15_0⟩
 have s16 := f15_0.sub (M := [0]) rfl
 have a17 := l15.o
 refine mv (.tuple [v0_15, vB z13.2].toArray) rfl (Lw.r rfl (R.ext (vs := [v0_15, vB z13.2]) (v := v0_15) rfl rfl) (Lw.r rfl (R.ext (vs := [v0_15, vB z13.2]) (v := vB z13.2) rfl rfl) (Gv v0_15 rfl (Nb rfl (Cw.seq (Cw.block ?_))))))
 obtain ⟨K20, hK20, hm⟩ := jn_e hm
 refine Cw.join 37 47 [37] (fun l w => ∃ y18 W19, CW.w W19 = w ∧ Le [] W15 W19 ∧ l = [vB y18] ∧ K20 y18 = some r) ?_ ?_
 ·rintro _ _ σ ⟨y18, W19, rfl, l19, rfl, hm⟩
  rw [hK20] at hm
  have a21 := l19.o
  refine cn hm (fun hm => ?_) fun hm => ?_
  ·refine sr (mv v0_15 rfl (mb rfl (Gv v0_15 rfl (Gb rfl (Ni rfl ?_)))))
   cases hm
   exact Cw.ret (ret3 rfl rfl rfl (Res.mk (((a5.trans a11).trans a17).trans a21) ⟨v0_15, rfl, (s16.ul a21)⟩))
  ·refine sr (mv v0_15 rfl (mb rfl (mv v0_3 rfl (mb rfl (ca hm (fun _ => p221 (s16.ul a21) (s4.ul ((a11.trans a17).trans a21))) fun z26 W28 hm l28 => ?_)))))
   have a29 := l28.o
   refine Nb rfl (cn hm (fun hm => ?_) fun hm => ?_)
   ·refine sr (mv v0_9 rfl (mb rfl (Gv v0_9 rfl (Gb rfl (Ni rfl ?_)))))
    cases hm
    exact Cw.ret (ret3 rfl rfl rfl (Res.mk ((((a5.trans a11).trans a17).trans a21).trans a29) ⟨v0_9, rfl, (s10.ul ((a17.trans a21).trans a29))⟩))
   ·obtain ⟨K34, hK34, hm⟩ := jn_e hm
    refine Cw.join 58 64 [58] (fun l w => ∃ y32 W33, CW.w W33 = w ∧ Le [] W28 W33 ∧ l = [vB y32] ∧ K34 y32 = some r) ?_ ?_
    ·rintro _ _ σ ⟨y32, W33, rfl, l33, rfl, hm⟩
     rw [hK34] at hm
     have a35 := l33.o
     refine cn hm (fun hm => ?_) fun hm => ?_
     ·refine sr (mv v0_3 rfl (mb rfl (Gv v0_3 rfl (Gb rfl (Ni rfl ?_)))))
      cases hm
      exact Cw.ret (ret3 rfl rfl rfl (Res.mk (((((a5.trans a11).trans a17).trans a21).trans a29).trans a35) ⟨v0_3, rfl, (s4.ul ((((a11.trans a17).trans a21).trans a29).trans a35))⟩))
     ·refine sr (mb rfl (Lw.r rfl (R.not rfl) (Nb rfl (cn hm (fun hm => ?_) fun hm => ?_))))
      ·refine sr (Gv (.slice none 0 0) rfl (Gb rfl (Ni rfl ?_)))
       cases hm
       exact Cw.ret (ret3 rfl rfl rfl (Res.mk (((((a5.trans a11).trans a17).trans a21).trans a29).trans a35) ⟨.slice none 0 0, rfl, (rdN (K := [0]))⟩))
      ·refine sk (sr (mv v0_3 rfl (mv v0_9 rfl (mv v0_15 rfl (cr hm (fun _ => p223 (k0 := 2) (s4.ul ((((a11.trans a17).trans a21).trans a29).trans a35)) (s10.ul (((a17.trans a21).trans a29).trans a35)) (s16.ul ((a21.trans a29).trans a35))) ?_)))))
       rintro z42 v0_44 W44 hm l44 ⟨_, rfl, f44_0⟩
       have a45 := l44.o
       refine cr hm (fun _ => p222 (K := [2]) (k0 := 3) f44_0.rd) ?_
       rintro z46 _ W48 hm l48 ⟨v0_48, rfl, f48_0⟩
       have a49 := l48.o
       refine mv (.tuple [v0_48, vB z46.2].toArray) rfl (Lw.r rfl (R.ext (vs := [v0_48, vB z46.2]) (v := v0_48) rfl rfl) (Lw.r rfl (R.ext (vs := [v0_48, vB z46.2]) (v := vB z46.2) rfl rfl) (Gv v0_48 rfl (Nb rfl (ssr (mb rfl (Lw.r rfl (R.not rfl) (nl (cn hm (fun hm => ?_) fun hm => ?_)))))))))
       ·refine sr (mv v0_3 rfl (Gv v0_3 rfl (Gb rfl (Ni rfl ?_))))
        cases hm
        exact Cw.ret (ret3 rfl rfl rfl (Res.mk (((((((a5.trans a11).trans a17).trans a21).trans a29).trans a35).trans a45).trans a49) ⟨v0_3, rfl, (s4.ul ((((((a11.trans a17).trans a21).trans a29).trans a35).trans a45).trans a49))⟩))
       ·refine sk (sr (mv v0_48 rfl (Gv v0_48 rfl (Gb rfl (Ni rfl ?_)))))
        obtain ⟨W53, ew53, l53, dj53⟩ := dyeE _ 3
        have s54 : Rd (α := List Str) W53 [0] [v0_48] z46.1 := by rw [dj53]; exact (f48_0.rd.dye 3).sub (M := [0]) rfl
        have a55 := (((((((a5.trans a11).trans a17).trans a21).trans a29).trans a35).trans a45).trans a49).t l53
        cases hm
        rw [← ew53]
        exact Cw.ret (ret3 rfl rfl rfl (Res.mk a55 ⟨v0_48, rfl, s54⟩))
    ·refine rg (mb rfl (Lw.r rfl (R.not rfl) (mb rfl (bs hm (fun hc57 hm => ?_) fun hc57 hm => ?_))))
     ·exact psk 2 hc57 rfl (Pb hc57 rfl (Nb rfl ((ag) ⟨true, W28, rfl, Le.refl _ _, rfl, hm⟩)))
     ·exact wak 2 hc57 (mb rfl (Lw.r rfl (R.not rfl) (Pb hc57 rfl (Nb rfl ((ag) ⟨(!z13.2), W28, rfl, Le.refl _ _, rfl, hm⟩)))))
 ·refine sr (mv v0_9 rfl (mb rfl (mv v0_3 rfl (mb rfl (ca hm (fun _ => p221 (s10.ul a17) (s4.ul (a11.trans a17))) fun z60 W62 hm l62 => ?_)))))
  have a63 := l62.o
  refine Nb rfl (cn hm (fun hm => ?_) fun hm => ?_)
  ·exact sk ((ag) ⟨z60, W62, rfl, l62, rfl, hm⟩)
  ·exact rg (mv v0_9 rfl (mb rfl (mv v0_15 rfl (mb rfl (ca hm (fun _ => p221 (s10.ul (a17.trans a63)) (s16.ul a63)) fun z67 W69 hm l69 => Nb rfl ((ag) ⟨z67, W69, rfl, (l62.j l69).w, rfl, hm⟩))))))
theorem p219 {x0 v0_ x1 v1_ x2 v2_ x3 r} (h0 : Rd W K [v0_] x0) (h1 : Rd W K [v1_] x1) (h2 : Rd W K [v2_] x2) (hm : Vm.spec_l6One x0 x1 x2 x3 = some r) : Q1 219 [v0_, v1_, v2_, vS x3] W [] fun W' v => ∃ u0, v = .tuple [u0, vB r.2.1, vI r.2.2].toArray ∧ Rd W' (0 :: K) [u0] r.1 :=
 (c219 (h0.view _) (h1.view _) (h2.view _) hm).ad (fk 0) fun _ _ ⟨u0, e, f0⟩ => ⟨u0, e, f0.back rfl⟩
theorem c214 {x0 v0_ x1 v1_ x2 v2_ r} (h0 : Rd W0 [0] [v0_] x0) (h1 : Rd W0 [0] [v1_] x1) (h2 : Rd W0 [0] [v2_] x2) (hm : Vm.spec_l6Of x0 x1 x2 = some r) : Q0 214 [v0_, v1_, v2_] W0 fun Wf v => ∃ u0 u1, v = .tuple [u0, u1].toArray ∧ OwS Wf [31] [] [u0] r.1 ∧ OwS Wf [32] [] [u1] r.2 := by
 unfold Vm.spec_l6Of at hm
 refine CallR.of Tryz.func214 rfl rfl rfl rfl (sr (Gv (.slice none 0 0) rfl (Nv (.slice none 0 0) rfl (sr (Lw.t rfl (T.lit0 (α := File) 2 []) ?_)))))
 rintro v1 _ ⟨W1, rfl, l1, o1⟩
 have a2 := l1.o
 refine Nv v1 rfl (sr (Lw.t rfl (T.lit0 (α := Clash) 3 []) ?_))
 rintro v3 _ ⟨W3, rfl, l3, o3⟩
 have a4 := a2.n l3
 refine Nv v3 rfl (sr (mv v0_ rfl (mv v1_ rfl (mv v2_ rfl (cr hm (fun _ => p218 (h0.ul a4) (h1.ul a4) (h2.ul a4)) ?_)))))
 rintro z9 v0_11 W11 hm l11 ⟨_, rfl, f11_0⟩
 have s12 := f11_0.sub (M := [0]) rfl
 have a13 := a4.n l11
 refine Nv v0_11 rfl (ssr (Ni rfl (Cw.block ?_)))
 obtain ⟨K27, hK27, hm⟩ := jn_e hm
 refine Cw.loop 21 61 [8, 9, 11, 12, 13, 14] (fun m l w => ∃ y16 y19 y22 v17 v20 j23 j24 j25 W26, CW.w W26 = w ∧ Le [2, 3, 4] W11 W26 ∧ l = [v17, v20, vI y22, j23, j24, j25] ∧ Ow W26 2 [] [v17] y16 ∧ Ow W26 3 [] [v20] y19 ∧ Vm.spec_l6Of_l1 x0 x1 x2 z9 K27 m y16 y19 y22 = some r) _ ⟨([] : List File), ([] : List Clash), 0, v1, v3, undef, undef, undef, W11, rfl, Le.refl _ _, rfl, ((o1.up l3).up l11), (o3.up l11), hm⟩ ?_
 rintro (_ | m28) _ _ σ ⟨y16, y19, y22, v17, v20, j23, j24, j25, W26, rfl, l26, rfl, o18, o21, hm⟩
 ·cases hm
 unfold Vm.spec_l6Of_l1 at hm
 have a29 := l26.s
 refine ssr ?_
 have s30 := s12.ul a29
 refine mi rfl (mv v0_11 rfl (Lw.ln z9 s30 rfl (Lw.lt rfl (nl (cn hm (fun hm => ?_) fun hm => ?_)))))
 ·refine sk ?_
  obtain ⟨K42, hK42, hm⟩ := jn_e hm
  refine Cw.join 27 61 [8, 9, 12, 13, 14] (fun l w => ∃ y32 y35 v33 v36 j38 j39 j40 W41, CW.w W41 = w ∧ Le [2, 3, 4] W26 W41 ∧ l = [v33, v36, j38, j39, j40] ∧ Ow W41 2 [] [v33] y32 ∧ Ow W41 3 [] [v36] y35 ∧ K42 y32 y35 = some r) ?_ ?_
  ·rintro _ _ σ ⟨y32, y35, v33, v36, j38, j39, j40, W41, rfl, l41, rfl, o34, o37, hm⟩
   rw [hK42] at hm
   exact rg (mi rfl (Lw.add rfl (Ni rfl ((agm) ⟨y32, y35, w64 (y22 + 1), v33, v36, j38, j39, j40, W41, rfl, (l26.j l41).w, rfl, o34, o37, hm⟩))))
  ·refine Cw.block (sr (mv v0_ rfl (mv v1_ rfl (mv v2_ rfl (mv v0_11 rfl (mi rfl ?_))))))
   obtain ⟨u44, e45, hm⟩ := ob hm
   refine Lw.r rfl (R.ix (α := Str) s30 e45 rfl rfl rfl) (Lw.r rfl (R.ld rfl rfl (s30.at_ e45).str) (cr hm (fun _ => p219 (h0.ul (a13.trans a29)) (h1.ul (a13.trans a29)) (h2.ul (a13.trans a29))) ?_))
   rintro z49 _ W51 hm l51 ⟨v0_51, rfl, f51_0⟩
   have s52 := f51_0.sub (M := [0]) rfl
   have a53 := a29.n l51
   refine mv (.tuple [v0_51, vB z49.2.1, vI z49.2.2].toArray) rfl (Lw.r rfl (R.ext (vs := [v0_51, vB z49.2.1, vI z49.2.2]) (v := v0_51) rfl rfl) (Lw.r rfl (R.ext (vs := [v0_51, vB z49.2.1, vI z49.2.2]) (v := vB z49.2.1) rfl rfl) (Lw.r rfl (R.ext (vs := [v0_51, vB z49.2.1, vI z49.2.2]) (v := vI z49.2.2) rfl rfl) (Gv v0_51 rfl (Gb rfl (Ni rfl ?_))))))
   obtain ⟨K60, hK60, hm⟩ := jn_e hm
   refine Cw.join 39 49 [9] (fun l w => ∃ y56 v57 W59, CW.w W59 = w ∧ Le [3] W51 W59 ∧ l = [v57] ∧ Ow W59 3 [] [v57] y56 ∧ K60 y56 = some r) ?_ ?_
   ·rintro _ _ σ ⟨y56, v57, W59, rfl, l59, rfl, o58, hm⟩
    rw [hK60] at hm
    have a61 := l59.s
    have o62 := (o18.up l51).up l59
    refine sr (mb rfl (nl (cn hm (fun hm => ?_) fun hm => ?_)))
    ·refine Cw.draw [2, 4] [(0, 0), (1, 0), (2, 0), (3, 0), (4, 1), (6, 0), (5, 2), (7, 2), (8, 0), (9, 2), (10, 2), (11, 0)] mixed (by kernel_rfl) fun W64 l64 => ?_
     have a65 := l64.o
     refine Dv v17 rfl (Dv v0_11 rfl (Di rfl ?_))
     obtain ⟨u68, e69, hm⟩ := ob hm
     have s70 := s12.ul ((a53.trans a61).trans a65)
     refine Mw.p rfl rfl (fun _ => R.ix (α := Str) s70 e69 rfl rfl rfl) (Mw.q rfl rfl (fun _ c => R.ld rfl rfl (cl_cell (s70.at_ e69).1 rfl (s70.at_ e69).str c)) (Dv v0_51 rfl (Mw.t rfl rfl (T.lit0 (α := Str) 4 []) ?_)))
     rintro v71 _ ⟨W71, rfl, l71, o71⟩
     have a72 := (a61.trans a65).n l71
     refine m0 l71 fun d71 => ?_
     obtain ⟨q75, e76, hm⟩ := ob hm
     refine Mw.t rfl rfl (T.appP (α := Str) o71 (s52.ul a72) rfl rfl e76) ?_
     rintro v77 _ ⟨W77, rfl, l77, o77⟩
     refine mc d71 l77 fun d77 => Mw.p rfl rfl (fun _ => R.bd (zs := [vS ([] : Str), .slice none 0 0]) (cs := [vS u68, v77]) [(0, vS u68), (1, v77)] rfl rfl rfl (bp_cons rfl rfl (bp_cons o77.oc rfl bp_nil))) (Mw.t rfl rfl (T.bs 5 [.agg [vS u68, v77].toArray] (cs := [vS u68, v77]) rfl rfl (bsA rfl)) ?_)
     rintro _ _ ⟨g82, W82, rfl, rfl, l82, b82⟩
     refine mc d77 l82 fun d82 => ?_
     obtain ⟨q87, e88, hm⟩ := ob hm
     refine Mw.t rfl rfl (T.app1 (α := File) (J := [4]) (K' := []) ((((o62.up l64).up l71).up l77).up l82) b82 (File.own u68 q75 (o77.up l82).s) rfl rfl e88) ?_
     rintro v89 _ ⟨W89, rfl, l89, o89⟩
     exact mc d82 l89 fun d89 => Hv v89 rfl (Mw.nil ((ag) ⟨q87, y56, v89, v57, v0_51, vB z49.2.1, vI z49.2.2, W89, rfl, ((((((l51.j l59).j l64).j l71).j l77).j l82).j l89).w, rfl, o89, (((((o58.up l64).up l71).up l77).up l82).up l89), hm⟩))
    ·exact sk ((ag) ⟨y16, y56, v17, v57, v0_51, vB z49.2.1, vI z49.2.2, W59, rfl, (l51.j l59).w, rfl, o62, o58, hm⟩)
   ·refine sr (mi rfl (Lw.gt rfl (nl (cn hm (fun hm => ?_) fun hm => ?_))))
    ·refine rg (mv v20 rfl (mv v0_11 rfl (mi rfl ?_)))
     obtain ⟨u94, e95, hm⟩ := ob hm
     refine Lw.r rfl (R.ix (α := Str) (s12.ul a53) e95 rfl rfl rfl) (Lw.r rfl (R.ld rfl rfl ((s12.ul a53).at_ e95).str) (mi rfl (Lw.r rfl (R.bd (zs := [vS ([] : Str), vI 0]) (cs := [vS u94, vI z49.2.2]) [(0, vS u94), (1, vI z49.2.2)] rfl rfl rfl (bp_cons rfl rfl (bp_cons rfl rfl bp_nil))) (Lw.t rfl (T.bs 6 [.agg [vS u94, vI z49.2.2].toArray] (cs := [vS u94, vI z49.2.2]) rfl rfl (bsA rfl)) ?_))))
     rintro _ _ ⟨g97, W97, rfl, rfl, l97, b97⟩
     obtain ⟨q101, e102, hm⟩ := ob hm
     refine Lw.t rfl (T.app1S (α := Clash) (K' := []) ((o21.up l51).up l97) b97 (Clash.rd (K := []) u94 z49.2.2) rfl rfl e102) ?_
     rintro v103 _ ⟨W103, rfl, l103, o103⟩
     exact Nv v103 rfl ((ag) ⟨q101, v103, W103, rfl, (l97.j l103).w, rfl, o103, hm⟩)
    ·exact sk ((ag) ⟨y19, v20, W51, rfl, Le.refl _ _, rfl, (o21.up l51), hm⟩)
 ·refine Cw.exit ?_
  rw [hK27] at hm
  refine sr (mv v17 rfl (mv v20 rfl (Gv v17 rfl (Nv v20 rfl ?_))))
  obtain ⟨W107, ew107, l107, o107⟩ := o18.dyeO 31
  have a108 := (a13.trans a29).t l107
  obtain ⟨W110, ew110, l110, o110⟩ := (o21.up l107).dyeO 32
  have a111 := a108.t l110
  cases hm
  rw [← ew110.trans (ew107)]
  exact Cw.ret (ret2 rfl rfl (Res.mk a111 ⟨v17, v20, rfl, (o107.up l110).s, o110.s⟩))
theorem p214 {x0 v0_ x1 v1_ x2 v2_ k0 k1 r} (h0 : Rd W K [v0_] x0) (h1 : Rd W K [v1_] x1) (h2 : Rd W K [v2_] x2) (hm : Vm.spec_l6Of x0 x1 x2 = some r) : Q1 214 [v0_, v1_, v2_] W [] fun W' v => ∃ u0 u1, v = .tuple [u0, u1].toArray ∧ Ow W' k0 [] [u0] r.1 ∧ Ow W' k1 [] [u1] r.2 :=
 CallR.adJ (J := []) (fun c => bif Nat.beq c 0 then 0 else bif Nat.beq c 31 then k0 else bif Nat.beq c 32 then k1 else 0) (c214 (h0.view _) (h1.view _) (h2.view _) hm) fun _ _ ⟨u0, u1, e, f0, f1⟩ => ⟨u0, u1, e, f0.one1.backN rfl, f1.one1.backN rfl⟩
theorem c207 {x0 v0_ x1 v1_ x2 v2_ r} (h0 : Rd W0 [0] [v0_] x0) (h1 : Rd W0 [0] [v1_] x1) (h2 : Rd W0 [0] [v2_] x2) (hm : Vm.spec_l6Join x0 x1 x2 = some r) : Q0 207 [v0_, v1_, v2_] W0 fun Wf v => ∃ u0 u1, v = .tuple [u0, u1].toArray ∧ OwS Wf [31] [] [u0] r.1 ∧ OwS Wf [32] [] [u1] r.2 := by
 unfold Vm.spec_l6Join at hm
 refine CallR.of Tryz.func207 rfl rfl rfl rfl (sr (Gv (.slice none 0 0) rfl (Nv (.slice none 0 0) rfl (sr (mv v0_ rfl (mv v1_ rfl (mv v2_ rfl (cr hm (fun _ => p214 (k0 := 2) (k1 := 3) h0 h1 h2) ?_))))))))
 rintro z1 _ W3 hm l3 ⟨v0_3, v1_3, rfl, f3_0, f3_1⟩
 have a4 := l3.o
 refine mv (.tuple [v0_3, v1_3].toArray) rfl (Lw.r rfl (R.ext (vs := [v0_3, v1_3]) (v := v0_3) rfl rfl) (Lw.r rfl (R.ext (vs := [v0_3, v1_3]) (v := v1_3) rfl rfl) (Gv v0_3 rfl (Nv v1_3 rfl (Cw.seq ?_)))))
 obtain ⟨K7, hK7, hm⟩ := jn_e hm
 refine Cw.join 17 24 [24] (fun l w => ∃ y5 W6, CW.w W6 = w ∧ Le [] W3 W6 ∧ l = [vB y5] ∧ K7 y5 = some r) ?_ ?_
 ·rintro _ _ σ ⟨y5, W6, rfl, l6, rfl, hm⟩
  rw [hK7] at hm
  have a8 := a4.n l6
  refine cn hm (fun hm => ?_) fun hm => ?_
  ·refine sr (mv v0_ rfl (cr hm (fun _ => p133 (k0 := 4) (h0.ul a8)) ?_))
   rintro z13 v0_15 W15 hm l15 ⟨_, rfl, f15_0⟩
   have a16 := a8.n l15
   refine Lw.r rfl (R.bd (zs := [vS ([] : Str), vI 0]) (cs := [vS ([] : Str), vI 4]) [(1, vI 4)] rfl rfl rfl (bp_cons rfl rfl bp_nil)) (Lw.t rfl (T.bsO (α := Clash) (J := []) (xs := [Vm.Clash.mk ([] : Str) 4]) 5 [.agg [vS ([] : Str), vI 4].toArray] (bsL [[vS ([] : Str), vI 4]] (mapa rfl mapn) (OwL.cons (x := (Vm.Clash.mk ([] : Str) 4)) (OwS.atm (K := []) (Clash.rd (K := []) ([] : Str) 4)) OwL.nil)) rfl) ?_)
   rintro v19 _ ⟨W19, rfl, l19, o19⟩
   have a20 := a16.n l19
   refine Gv v0_15 rfl (Nv v19 rfl ?_)
   obtain ⟨W24, ew24, l24, o24⟩ := (f15_0.up l19).dyeO 31
   have a25 := a20.t l24
   obtain ⟨W29, ew29, l29, o29⟩ := (o19.up l24).dyeO 32
   have a30 := a25.t l29
   cases hm
   rw [← ew29.trans (ew24)]
   exact Cw.ret (ret2 rfl rfl (Res.mk a30 ⟨v0_15, v19, rfl, (o24.up l29).s, o29.s⟩))
  ·refine sk (sr (mv v0_3 rfl (mv v1_3 rfl (Gv v0_3 rfl (Nv v1_3 rfl ?_)))))
   obtain ⟨W34, ew34, l34, o34⟩ := (f3_0.up l6).dyeO 31
   have a35 := a8.t l34
   obtain ⟨W37, ew37, l37, o37⟩ := ((f3_1.up l6).up l34).dyeO 32
   have a38 := a35.t l37
   cases hm
   rw [← ew37.trans (ew34)]
   exact Cw.ret (ret2 rfl rfl (Res.mk a38 ⟨v0_3, v1_3, rfl, (o34.up l37).s, o37.s⟩))
 ·refine rg (mv v1_3 rfl (Lw.ln z1.2 f3_1.rd rfl (Lw.eq rfl (mb rfl (bs hm (fun hc40 hm => ?_) fun hc40 hm => ?_)))))
  ·exact wak 3 hc40 (mv v0_3 rfl (ca hm (fun _ => p139 (K := [2]) f3_0.rd) fun z41 W43 hm l43 => Lw.r rfl (R.not rfl) (Pb hc40 rfl (nl ((ag) ⟨(!z41), W43, rfl, l43, rfl, hm⟩)))))
  ·exact psk 3 hc40 rfl (Pb hc40 rfl (nl ((ag) ⟨false, W3, rfl, Le.refl _ _, rfl, hm⟩)))
theorem p207 {x0 v0_ x1 v1_ x2 v2_ k0 k1 r} (h0 : Rd W K [v0_] x0) (h1 : Rd W K [v1_] x1) (h2 : Rd W K [v2_] x2) (hm : Vm.spec_l6Join x0 x1 x2 = some r) : Q1 207 [v0_, v1_, v2_] W [] fun W' v => ∃ u0 u1, v = .tuple [u0, u1].toArray ∧ Ow W' k0 [] [u0] r.1 ∧ Ow W' k1 [] [u1] r.2 :=
 CallR.adJ (J := []) (fun c => bif Nat.beq c 0 then 0 else bif Nat.beq c 31 then k0 else bif Nat.beq c 32 then k1 else 0) (c207 (h0.view _) (h1.view _) (h2.view _) hm) fun _ _ ⟨u0, u1, e, f0, f1⟩ => ⟨u0, u1, e, f0.one1.backN rfl, f1.one1.backN rfl⟩
theorem c199 {x0 v0_0_ v0_1_ x1 x2 x3 r} (h0 : Rd W0 [0] [v0_0_, v0_1_] x0) (hm : Vm.spec_l9Unite x0 x1 x2 x3 = some r) : Q0 199 [.agg [v0_0_, v0_1_].toArray, vS x1, vS x2, vI x3] W0 fun Wf v => ∃ u0_0 u0_1, v = .tuple [.agg [u0_0, u0_1].toArray, vI r.2].toArray ∧ Rd Wf [0] [u0_0] r.1.Commits ∧ Rd Wf [0] [u0_1] r.1.Heads := by
 unfold Vm.spec_l9Unite at hm
 obtain ⟨w0_0, w0_1, he0, h0_0, h0_1⟩ := Repo.split h0
 simp only [List.cons.injEq, and_true, true_and] at he0
 obtain ⟨rfl, rfl⟩ := he0
 refine CallR.of Tryz.func199 rfl rfl rfl rfl (sr (bo 2 rfl fun g1 W1 l1 b1 => ?_))
 have a2 := l1.o
 refine al 3 [.slice none 0 0, .slice none 0 0] fun g3 W3 l3 b3 => ?_
 have a4 := a2.n l3
 refine Ni rfl (sr (la (b1.up l3) (ms rfl (ca hm (fun _ => p130 (Repo.rd (K := [0]) x0.Commits x0.Heads (h0_0.ul a4) (h0_1.ul a4))) fun z8 W10 hm l10 => ?_))))
 have a11 := a4.n l10
 have b12 := (b1.up l3).up l10
 refine Ni rfl (ssr (la b12 (mi rfl (cr hm (fun _ => p106 (k0 := 4) (Repo.rd (K := [0]) x0.Commits x0.Heads (h0_0.ul a11) (h0_1.ul a11))) ?_))))
 rintro z16 v0_18 W18 hm l18 ⟨_, rfl, f18_0⟩
 have a19 := a11.n l18
 refine mi rfl (ca hm (fun _ => p172 (K := [4]) f18_0.rd) fun z22 W24 hm l24 => ?_)
 have a25 := a19.n l24
 have b27 := (b12.up l18).up l24
 have b28 := ((b3.up l10).up l18).up l24
 refine nl (cn hm (fun hm => ?_) fun hm => ?_)
 ·refine sr (la b27 (sta b28 (oc_cons h0_0.oc (oc_cons h0_1.oc oc_nil)) fun W30 l30 b30 => ?_))
  have a31 := a25.t l30
  refine Ni rfl ?_
  cases hm
  exact Cw.ret (retA2 rfl b30 rfl (Res.mk a31 ⟨v0_0_, v0_1_, rfl, (h0_0.ul a31), (h0_1.ul a31)⟩))
 ·refine sk (ssr (la b27 (mi rfl (cr hm (fun _ => p106 (k0 := 5) (Repo.rd (K := [0]) x0.Commits x0.Heads (h0_0.ul a25) (h0_1.ul a25))) ?_))))
  rintro z38 v0_40 W40 hm l40 ⟨_, rfl, f40_0⟩
  have a41 := a25.n l40
  refine mi rfl (ca hm (fun _ => p172 (K := [5]) f40_0.rd) fun z45 W47 hm l47 => ?_)
  have a48 := a41.n l47
  have b51 := (b27.up l40).up l47
  have b52 := (b28.up l40).up l47
  refine nl (cn hm (fun hm => ?_) fun hm => ?_)
  ·refine sr (la b51 (ms rfl (mi rfl (cr hm (fun _ => p129 (Repo.rd (K := [0]) x0.Commits x0.Heads (h0_0.ul a48) (h0_1.ul a48))) ?_))))
   rintro z56 _ W58 hm l58 ⟨v0_0_58, v0_1_58, rfl, f58_0, f58_1⟩
   have s59 := f58_0.sub (M := [0]) rfl
   have s60 := f58_1.sub (M := [0]) rfl
   have a61 := a48.n l58
   refine sta (b52.up l58) (oc_cons s59.oc (oc_cons s60.oc oc_nil)) fun W66 l66 b66 => ?_
   have a67 := l66.s
   refine Ni rfl ?_
   cases hm
   exact Cw.ret (retA2 rfl b66 rfl (Res.mk (a61.trans a67) ⟨v0_0_58, v0_1_58, rfl, (s59.ul a67), (s60.ul a67)⟩))
  ·refine sk (Cw.seq (Cw.draw [] [(0, 1), (1, 0), (2, 0), (4, 0), (5, 1), (6, 0), (7, 0), (8, 0), (9, 1), (10, 0), (11, 1), (12, 0), (13, 0), (14, 0), (15, 1), (3, 2), (16, 2), (17, 0), (18, 0), (19, 0), (20, 0), (21, 0)] mixed (by kernel_rfl) fun W73 l73 => ?_))
   have a74 := a48.n l73
   have b77 := b51.up l73
   refine Mw.q rfl rfl (fun _ c => R.lda (cs := [v0_0_, v0_1_]) (b77.clcs rfl c) rfl rfl) (Di rfl (Di rfl (Dfl b77 rfl rfl rfl (Di rfl ?_))))
   obtain ⟨u79, e80, hm⟩ := ob hm
   have s81 := h0_0.ul a74
   refine Mw.p rfl rfl (fun _ => R.ix (α := Commit) s81 e80 rfl rfl rfl) (Df rfl ?_)
   obtain ⟨v82, c83, r84⟩ := (Commit.at2 (s81.at_ e80)).cell rfl
   refine Mw.q rfl rfl (fun _ c => R.ld rfl rfl (cl_cell (Commit.at2 (s81.at_ e80)).1 rfl c83 c)) (Dfl b77 rfl rfl rfl (Di rfl ?_))
   obtain ⟨u85, e86, hm⟩ := ob hm
   refine Mw.p rfl rfl (fun _ => R.ix (α := Commit) s81 e86 rfl rfl rfl) (Df rfl ?_)
   obtain ⟨v87, c88, r89⟩ := (Commit.at2 (s81.at_ e86)).cell rfl
   refine Mw.q rfl rfl (fun _ c => R.ld rfl rfl (cl_cell (Commit.at2 (s81.at_ e86)).1 rfl c88 c)) ?_
   obtain ⟨z91, e92, hm⟩ := ob hm
   refine Mw.t rfl rfl (T.call rfl (p208  (Repo.rd (K := [0]) x0.Commits x0.Heads s81 (h0_1.ul a74)) e92)) ?_
   rintro v0_93 _ ⟨W93, rfl, l93, ⟨_, rfl, f93_0⟩⟩
   have s94 := f93_0.sub (M := [0]) rfl
   have a95 := l93.o
   refine m0 l93 fun d93 => ?_
   obtain ⟨z102, e103, hm⟩ := ob hm
   refine Mw.t rfl rfl (T.call rfl (p207 (k0 := 6) (k1 := 7) s94 (r84.ul a95) (r89.ul a95) e103)) ?_
   rintro _ _ ⟨W104, rfl, l104, ⟨v0_104, v1_104, rfl, f104_0, f104_1⟩⟩
   have a105 := (a74.trans a95).n l104
   have b108 := (b77.up l93).up l104
   have b109 := ((b52.up l73).up l93).up l104
   refine mc d93 l104 fun d104 => Dv (.tuple [v0_104, v1_104].toArray) rfl (Mw.p rfl rfl (fun _ => R.ext (vs := [v0_104, v1_104]) (v := v0_104) rfl rfl) (Mw.p rfl rfl (fun _ => R.ext (vs := [v0_104, v1_104]) (v := v1_104) rfl rfl) (Hv v0_104 rfl (Hv v1_104 rfl (Mw.nil (ssr (mv v1_104 rfl (Lw.ln z102.2 f104_1.rd rfl (Lw.gt rfl (nl (cn hm (fun hm => ?_) fun hm => ?_)))))))))))
   ·refine sr (la b108 (sta b109 (oc_cons h0_0.oc (oc_cons h0_1.oc oc_nil)) fun W111 l111 b111 => ?_))
    have a112 := a105.t l111
    refine Ni rfl ?_
    cases hm
    exact Cw.ret (retA2 rfl b111 rfl (Res.mk a112 ⟨v0_0_, v0_1_, rfl, (h0_0.ul a112), (h0_1.ul a112)⟩))
   ·refine sk (sr (la b108 (ms rfl (mi rfl (mi rfl (Lw.t rfl (T.bsS (α := Int) (xs := [z8, x3]) 8 [] (W := W104) [vI z8, vI x3] (Each.cons ((rdI _)) (Each.cons ((rdI _)) Each.nil)) rfl) ?_))))))
    rintro v120 _ ⟨W120, rfl, l120, o120⟩
    have a121 := a105.n l120
    have o124 := f104_0.up l120
    refine ms rfl (mv v0_104 rfl (Lw.r rfl (R.bd (zs := [.slice none 0 0, vS ([] : Str), .slice none 0 0]) (cs := [v120, vS x2, v0_104]) [(0, v120), (1, vS x2), (2, v0_104)] rfl rfl rfl (bp_cons o120.oc rfl (bp_cons rfl rfl (bp_cons o124.oc rfl bp_nil)))) (cr hm (fun _ => p134 (K := [0, 6, 8]) (x2 := (Vm.Commit.mk ([z8, x3] : List Int) x2 z102.1)) ((Repo.rd (K := [0]) x0.Commits x0.Heads (h0_0.ul a121) (h0_1.ul a121)).sub (M := [0, 6, 8]) rfl) ((Commit.rd (K := [6, 8]) ([z8, x3] : List Int) x2 z102.1 (o120.rd.sub (M := [6, 8]) rfl) (o124.rd.sub (M := [6, 8]) rfl)).sub (M := [0, 6, 8]) rfl)) ?_)))
    rintro z130 _ W132 hm l132 ⟨v0_0_132, v0_1_132, rfl, f132_0, f132_1⟩
    have s133 := f132_0.sub (M := [0, 6, 8]) rfl
    have s134 := f132_1.sub (M := [0, 6, 8]) rfl
    have a135 := a121.n l132
    refine al 9 [.slice none 0 0, .slice none 0 0] fun g143 W143 l143 b143 => ?_
    have a144 := a135.n l143
    refine sta b143 (oc_cons s133.oc (oc_cons s134.oc oc_nil)) fun W152 l152 b152 => ?_
    have a153 := a144.t l152
    refine nl (ssr (la b152 ?_))
    have s161 := s133.up ((l143.sub (M := [9]) rfl).trans (l152.sub (M := [9]) rfl)) rfl
    have s162 := s134.up ((l143.sub (M := [9]) rfl).trans (l152.sub (M := [9]) rfl)) rfl
    refine ca hm (fun _ => p74 (K := [0, 6, 8]) (Repo.rd (K := [0, 6, 8]) z130.Commits z130.Heads s161 s162)) fun z163 W165 hm l165 => ?_
    have a166 := a153.n l165
    have b173 := ((((b109.up l120).up l132).up l143).up l152).up l165
    refine Lw.r rfl (R.not rfl) (nl (cn hm (fun hm => ?_) fun hm => ?_))
    ·refine sr (la (((((b108.up l120).up l132).up l143).up l152).up l165) (sta b173 (oc_cons h0_0.oc (oc_cons h0_1.oc oc_nil)) fun W176 l176 b176 => ?_))
     have a177 := a166.t l176
     refine Ni rfl ?_
     cases hm
     exact Cw.ret (retA2 rfl b176 rfl (Res.mk a177 ⟨v0_0_, v0_1_, rfl, (h0_0.ul a177), (h0_1.ul a177)⟩))
    ·refine sk (sr (la (b152.up l165) (sta b173 (oc_cons s133.oc (oc_cons s134.oc oc_nil)) fun W187 l187 b187 => ?_)))
     have a188 := a166.t l187
     refine Ni rfl ?_
     have s196 := s133.up ((l143.sub (M := [3, 9]) rfl).trans ((l152.sub (M := [3, 9]) rfl).trans ((l165.sub (M := [3, 9]) rfl).trans (l187.sub (M := [3, 9]) rfl)))) rfl
     have s197 := s134.up ((l143.sub (M := [3, 9]) rfl).trans ((l152.sub (M := [3, 9]) rfl).trans ((l165.sub (M := [3, 9]) rfl).trans (l187.sub (M := [3, 9]) rfl)))) rfl
     obtain ⟨W198, ew198, l198, dj198⟩ := dyeE _ 6
     have s199 : Rd W198 [0, 8] [v0_0_132] z130.Commits := by rw [dj198]; exact (s196.dye 6).sub (M := [0, 8]) rfl
     have s200 : Rd W198 [0, 8] [v0_1_132] z130.Heads := by rw [dj198]; exact (s197.dye 6).sub (M := [0, 8]) rfl
     have s201 : Rd (α := List Vm.File) W198 [0] [v0_104] z102.1 := by rw [dj198]; exact ((((((o124.up l132).up l143).up l152).up l165).up l187).rd.dye 6).sub (M := [0]) rfl
     have a202 := a188.t l198
     obtain ⟨W210, ew210, l210, dj210⟩ := dyeE _ 8
     have s211 : Rd W210 [0] [v0_0_132] z130.Commits := by rw [dj210]; exact (s199.dye 8).sub (M := [0]) rfl
     have s212 : Rd W210 [0] [v0_1_132] z130.Heads := by rw [dj210]; exact (s200.dye 8).sub (M := [0]) rfl
     have s213 : Rd (α := List Int) W210 [0] [v120] ([z8, x3] : List Int) := by rw [dj210]; exact (((((((o120.up l132).up l143).up l152).up l165).up l187).up l198).rd.dye 8).sub (M := [0]) rfl
     have a214 := a202.t l210
     cases hm
     rw [← ew210.trans (ew198)]
     exact Cw.ret (retA2 rfl ((b187.up l198).up l210) rfl (Res.mk a214 ⟨v0_0_132, v0_1_132, rfl, s211, s212⟩))
theorem p199 {x0 v0_0_ v0_1_ x1 x2 x3 r} (h0 : Rd W K [v0_0_, v0_1_] x0) (hm : Vm.spec_l9Unite x0 x1 x2 x3 = some r) : Q1 199 [.agg [v0_0_, v0_1_].toArray, vS x1, vS x2, vI x3] W [] fun W' v => ∃ u0_0 u0_1, v = .tuple [.agg [u0_0, u0_1].toArray, vI r.2].toArray ∧ Rd W' (0 :: K) [u0_0] r.1.Commits ∧ Rd W' (0 :: K) [u0_1] r.1.Heads :=
 (c199 (h0.view _) hm).ad (fk 0) fun _ _ ⟨u0_0, u0_1, e, f0, f1⟩ => ⟨u0_0, u0_1, e, f0.back rfl, f1.back rfl⟩
theorem c191 {x0 v0_0_ v0_1_ x1 x2 x3 r} (h0 : Rd W0 [0] [v0_0_, v0_1_] x0) (hm : Vm.spec_UniteInto x0 x1 x2 x3 = some r) : Q0 191 [.agg [v0_0_, v0_1_].toArray, vS x1, vS x2, vI x3] W0 fun Wf v => ∃ u0_0 u0_1, v = .tuple [.agg [u0_0, u0_1].toArray, vI r.2].toArray ∧ Rd Wf [0] [u0_0] r.1.Commits ∧ Rd Wf [0] [u0_1] r.1.Heads := by
 unfold Vm.spec_UniteInto at hm
 obtain ⟨w0_0, w0_1, he0, h0_0, h0_1⟩ := Repo.split h0
 simp only [List.cons.injEq, and_true, true_and] at he0
 obtain ⟨rfl, rfl⟩ := he0
 refine CallR.of Tryz.func191 rfl rfl rfl rfl (sr (bo 2 rfl fun g1 W1 l1 b1 => ?_))
 have a2 := l1.o
 refine al 3 [.slice none 0 0, .slice none 0 0] fun g3 W3 l3 b3 => ?_
 have a4 := a2.n l3
 refine Ni rfl (ssr (la (b1.up l3) (ca hm (fun _ => p74 (Repo.rd (K := [0]) x0.Commits x0.Heads (h0_0.ul a4) (h0_1.ul a4))) fun z8 W10 hm l10 => ?_)))
 have a11 := a4.n l10
 have b12 := (b1.up l3).up l10
 refine Lw.r rfl (R.not rfl) (nl (cn hm (fun hm => ?_) fun hm => ?_))
 ·refine sr (Lw.r rfl (R.bd (zs := [.slice none 0 0, .slice none 0 0]) (cs := [.slice none 0 0, .slice none 0 0]) [] rfl rfl rfl bp_nil) (sta (b3.up l10) (oc_cons rfl (oc_cons rfl oc_nil)) fun W15 l15 b15 => ?_))
  have a16 := a11.t l15
  refine Ni rfl ?_
  cases hm
  exact Cw.ret (retA2 rfl b15 rfl (Res.mk a16 ⟨.slice none 0 0, .slice none 0 0, rfl, (rdN (K := [0])), (rdN (K := [0]))⟩))
 ·refine sk (Cw.seq ?_)
  obtain ⟨K20, hK20, hm⟩ := jn_e hm
  refine Cw.join 14 31 [31] (fun l w => ∃ y18 W19, CW.w W19 = w ∧ Le [] W10 W19 ∧ l = [vB y18] ∧ K20 y18 = some r) ?_ ?_
  ·rintro _ _ σ ⟨y18, W19, rfl, l19, rfl, hm⟩
   rw [hK20] at hm
   have a21 := a11.n l19
   have b23 := (b3.up l10).up l19
   refine cn hm (fun hm => ?_) fun hm => ?_
   ·refine sr (la (b12.up l19) (cr hm (fun _ => p75 (k0 := 4) (k1 := 5) (Repo.rd (K := [0]) x0.Commits x0.Heads (h0_0.ul a21) (h0_1.ul a21))) ?_))
    rintro z27 _ W29 hm l29 ⟨v0_0_29, v0_1_29, rfl, f29_0, f29_1⟩
    have a30 := a21.n l29
    refine sta (b23.up l29) (oc_cons f29_0.oc (oc_cons f29_1.oc oc_nil)) fun W33 l33 b33 => ?_
    have a34 := a30.t l33
    refine Ni rfl ?_
    obtain ⟨W38, ew38, l38, dj38⟩ := dyeE _ 4
    have s39 : Rd (α := List Vm.Commit) W38 [0] [v0_0_29] z27.Commits := by rw [dj38]; exact ((f29_0.up l33).rd.dye 4).sub (M := [0]) rfl
    have a40 := a34.t l38
    obtain ⟨W44, ew44, l44, dj44⟩ := dyeE _ 5
    have s45 : Rd (α := List Vm.Head) W44 [0] [v0_1_29] z27.Heads := by rw [dj44]; exact (((f29_1.up l33).up l38).rd.dye 5).sub (M := [0]) rfl
    have a46 := l44.s
    cases hm
    rw [← ew44.trans (ew38)]
    exact Cw.ret (retA2 rfl ((b33.up l38).up l44) rfl (Res.mk (a40.trans a46) ⟨v0_0_29, v0_1_29, rfl, (s39.ul a46), s45⟩))
   ·refine sk (sr (la (b12.up l19) (cr hm (fun _ => p75 (k0 := 6) (k1 := 7) (Repo.rd (K := [0]) x0.Commits x0.Heads (h0_0.ul a21) (h0_1.ul a21))) ?_)))
    rintro z52 _ W54 hm l54 ⟨v0_0_54, v0_1_54, rfl, f54_0, f54_1⟩
    have a55 := a21.n l54
    refine ms rfl (ms rfl (mi rfl (cr hm (fun _ => p199 (K := [6, 7]) (x0 := (Vm.Repo.mk z52.Commits z52.Heads)) (Repo.rd (K := [6, 7]) z52.Commits z52.Heads (f54_0.rd.sub (M := [6, 7]) rfl) (f54_1.rd.sub (M := [6, 7]) rfl))) ?_)))
    rintro z58 _ W60 hm l60 ⟨v0_0_60, v0_1_60, rfl, f60_0, f60_1⟩
    have s61 := f60_0.sub (M := [0, 6, 7]) rfl
    have s62 := f60_1.sub (M := [0, 6, 7]) rfl
    have a63 := a55.n l60
    refine Lw.r rfl (R.ext (vs := [.agg [v0_0_60, v0_1_60].toArray, vI z58.2]) (v := .agg [v0_0_60, v0_1_60].toArray) rfl rfl) (Lw.r rfl (R.ext (vs := [.agg [v0_0_60, v0_1_60].toArray, vI z58.2]) (v := vI z58.2) rfl rfl) (sta ((b23.up l54).up l60) (oc_cons s61.oc (oc_cons s62.oc oc_nil)) fun W68 l68 b68 => ?_))
    have a69 := a63.t l68
    refine Ni rfl ?_
    have s73 := s61.up (l68.sub (M := [3]) rfl) rfl
    have s74 := s62.up (l68.sub (M := [3]) rfl) rfl
    obtain ⟨W75, ew75, l75, dj75⟩ := dyeE _ 6
    have s76 : Rd W75 [0, 7] [v0_0_60] z58.1.Commits := by rw [dj75]; exact (s73.dye 6).sub (M := [0, 7]) rfl
    have s77 : Rd W75 [0, 7] [v0_1_60] z58.1.Heads := by rw [dj75]; exact (s74.dye 6).sub (M := [0, 7]) rfl
    have s78 : Rd (α := List Vm.Commit) W75 [0] [v0_0_54] z52.Commits := by rw [dj75]; exact (((f54_0.up l60).up l68).rd.dye 6).sub (M := [0]) rfl
    have a79 := a69.t l75
    obtain ⟨W83, ew83, l83, dj83⟩ := dyeE _ 7
    have s84 : Rd W83 [0] [v0_0_60] z58.1.Commits := by rw [dj83]; exact (s76.dye 7).sub (M := [0]) rfl
    have s85 : Rd W83 [0] [v0_1_60] z58.1.Heads := by rw [dj83]; exact (s77.dye 7).sub (M := [0]) rfl
    have s86 : Rd (α := List Vm.Head) W83 [0] [v0_1_54] z52.Heads := by rw [dj83]; exact ((((f54_1.up l60).up l68).up l75).rd.dye 7).sub (M := [0]) rfl
    have a87 := a79.t l83
    cases hm
    rw [← ew83.trans (ew75)]
    exact Cw.ret (retA2 rfl ((b68.up l75).up l83) rfl (Res.mk a87 ⟨v0_0_60, v0_1_60, rfl, s84, s85⟩))
  ·refine rg (la b12 (ms rfl (ca hm (fun _ => p130 (Repo.rd (K := [0]) x0.Commits x0.Heads (h0_0.ul a11) (h0_1.ul a11))) fun z92 W94 hm l94 => ?_)))
   have a95 := a11.n l94
   refine Lw.lt rfl (mb rfl (bs hm (fun hc98 hm => ?_) fun hc98 hm => ?_))
   ·exact psk 3 hc98 rfl (Pb hc98 rfl (mb rfl (psk 7 rfl rfl (Pb rfl rfl (nl ((ag) ⟨true, W94, rfl, l94, rfl, hm⟩))))))
   ·refine wak 3 hc98 (ms rfl (ca hm (fun _ => p138) fun z99 W101 hm l101 => ?_))
    have a102 := a95.n l101
    refine Lw.r rfl (R.not rfl) (Pb hc98 rfl (mb rfl (bs hm (fun hc105 hm => ?_) fun hc105 hm => ?_)))
    ·exact psk 7 hc105 rfl (Pb hc105 rfl (nl ((ag) ⟨true, W101, rfl, (l94.j l101).w, rfl, hm⟩)))
    ·exact wak 7 hc105 (mi rfl (fl ((b12.up l94).up l101) rfl (Lw.ln x0.Commits (h0_0.ul a102) rfl (Lw.sub rfl (ca hm (fun _ => p84) fun z107 W109 hm l109 => Lw.r rfl (R.not rfl) (Pb hc105 rfl (nl ((ag) ⟨(!z107), W109, rfl, ((l94.j l101).j l109).w, rfl, hm⟩))))))))
theorem p191 {x0 v0_0_ v0_1_ x1 x2 x3 r} (h0 : Rd W K [v0_0_, v0_1_] x0) (hm : Vm.spec_UniteInto x0 x1 x2 x3 = some r) : Q1 191 [.agg [v0_0_, v0_1_].toArray, vS x1, vS x2, vI x3] W [] fun W' v => ∃ u0_0 u0_1, v = .tuple [.agg [u0_0, u0_1].toArray, vI r.2].toArray ∧ Rd W' (0 :: K) [u0_0] r.1.Commits ∧ Rd W' (0 :: K) [u0_1] r.1.Heads :=
 (c191 (h0.view _) hm).ad (fk 0) fun _ _ ⟨u0_0, u0_1, e, f0, f1⟩ => ⟨u0_0, u0_1, e, f0.back rfl, f1.back rfl⟩
theorem c201 {x0 v0_0_ v0_1_ x1 r} (h0 : Rd W0 [0] [v0_0_, v0_1_] x0) (hm : Vm.spec_l10Ahead x0 x1 = some r) : Q0 201 [.agg [v0_0_, v0_1_].toArray, vI x1] W0 fun Wf v => ∃ u0, v = u0 ∧ Rd Wf [0] [u0] r := by
 unfold Vm.spec_l10Ahead at hm
 obtain ⟨w0_0, w0_1, he0, h0_0, h0_1⟩ := Repo.split h0
 simp only [List.cons.injEq, and_true, true_and] at he0
 obtain ⟨rfl, rfl⟩ := he0
 refine CallR.of Tryz.func201 rfl rfl rfl rfl (sr (bo 2 rfl fun g1 W1 l1 b1 => ?_))
 have a2 := l1.o
 refine Nv (.slice none 0 0) rfl (ssr (fl b1 rfl (mi rfl ?_)))
 obtain ⟨u3, e4, hm⟩ := ob hm
 refine Lw.r rfl (R.ix (α := Commit) (h0_0.ul a2) e4 rfl rfl rfl) (Lw.fa rfl ?_)
 obtain ⟨v6, c7, r8⟩ := (Commit.at0 ((h0_0.ul a2).at_ e4)).cell rfl
 refine Lw.r rfl (R.ld rfl rfl c7) (Lw.ln u3.Parents r8 rfl (Lw.eq rfl (nl (cn hm (fun hm => ?_) fun hm => ?_))))
 ·refine sr (Nv (.slice none 0 0) rfl ?_)
  cases hm
  exact Cw.ret (ret1 rfl (Res.mk a2 ⟨.slice none 0 0, rfl, (rdN (K := [0]))⟩))
 ·refine sk (Cw.seq (Cw.draw [] [(0, 0), (1, 1), (2, 0), (3, 1), (4, 0), (5, 0), (6, 0), (7, 1), (8, 0), (9, 1), (10, 0), (11, 0), (12, 1), (13, 0)] mixed (by kernel_rfl) fun W10 l10 => ?_))
  have a11 := a2.n l10
  refine Dfl (b1.up l10) rfl rfl rfl (Dfl (b1.up l10) rfl rfl rfl (Di rfl ?_))
  obtain ⟨u13, e14, hm⟩ := ob hm
  have s15 := h0_0.ul a11
  refine Mw.p rfl rfl (fun _ => R.ix (α := Commit) s15 e14 rfl rfl rfl) (Df rfl ?_)
  obtain ⟨v16, c17, r18⟩ := (Commit.at0 (s15.at_ e14)).cell rfl
  refine Mw.q rfl rfl (fun _ c => R.ld rfl rfl (cl_cell (Commit.at0 (s15.at_ e14)).1 rfl c17 c)) ?_
  obtain ⟨u19, e20, hm⟩ := ob hm
  refine Mw.p rfl rfl (fun _ => R.ix (α := Int) r18 e20 rfl rfl rfl) (Mw.q rfl rfl (fun _ c => R.ld rfl rfl (cl_cell (r18.at_ e20).1 rfl (r18.at_ e20).int c)) ?_)
  obtain ⟨u21, e22, hm⟩ := ob hm
  refine Mw.p rfl rfl (fun _ => R.ix (α := Commit) s15 e22 rfl rfl rfl) (Df rfl ?_)
  obtain ⟨v23, c24, r25⟩ := (Commit.at2 (s15.at_ e22)).cell rfl
  refine Mw.q rfl rfl (fun _ c => R.ld rfl rfl (cl_cell (Commit.at2 (s15.at_ e22)).1 rfl c24 c)) (Hv v23 rfl (Mw.nil ?_))
  cases hm
  exact Cw.ret (ret1 rfl (Res.mk a11 ⟨v23, rfl, r25⟩))
theorem p201 {x0 v0_0_ v0_1_ x1 r} (h0 : Rd W K [v0_0_, v0_1_] x0) (hm : Vm.spec_l10Ahead x0 x1 = some r) : Q1 201 [.agg [v0_0_, v0_1_].toArray, vI x1] W [] fun W' v => ∃ u0, v = u0 ∧ Rd W' (0 :: K) [u0] r :=
 (c201 (h0.view _) hm).ad (fk 0) fun _ _ ⟨u0, e, f0⟩ => ⟨u0, e, f0.back rfl⟩
end Go.Sx
