/- Walks: each function answers as its model, printed by a program of ours. Conditions: the arguments read as they are given. -/
import Derived.Test.YtmjjhnahdmlmaaaGreatDoorXTs
import Derived.Test.YtmjjhnahdmlmaaaGreatDoorXMd
import Derived.Test.YtmjjhnahdmlmaaaGreatDoorXW1
import Derived.Test.YtmjjhnahdmlmaaaGreatDoorXW2
import Derived.Test.YtmjjhnahdmlmaaaGreatDoorXW5
namespace Go.Sx
open Go Go.Proofs Go.Vm Rp
set_option linter.unusedVariables false
set_option linter.unusedSimpArgs false

theorem c123 {V : CW} {x0 : List Vm.Part} {v0_ : Value} {x1 : Vm.Part} {v1_1_ : Value} {v1_2_ : Value} {v1_3_ : Value} {v1_4_ : Value} {r : (List Vm.Part)} (h0 : Ow V 2 [] [v0_] x0) (h1_1 : Ow V 3 [] [v1_1_] x1.Lines) (h1_2 : Ow V 4 [] [v1_2_] x1.Old) (h1_3 : Ow V 5 [] [v1_3_] x1.One) (h1_4 : Ow V 6 [] [v1_4_] x1.Two) (hm : Vm.spec_l3Put x0 x1 = some r) : CallR Tryz.prog 123 [v0_, .agg [vB x1.Clash, v1_1_, v1_2_, v1_3_, v1_4_].toArray].toArray V.w (Res V LL fun Wf v => ∃ (u0 : Value), v = u0 ∧ OwS Wf [31] [] [u0] r) := by
 unfold Vm.spec_l3Put at hm
 obtain ⟨W0, hW0⟩ : ∃ W, W = V := ⟨V, rfl⟩
 subst hW0
 refine CallR.of Tryz.func123 rfl rfl rfl rfl (Cw.seq (Cw.region (Lw.t rfl (T.box 7 (v := .agg [vB x1.Clash, v1_1_, v1_2_, v1_3_, v1_4_].toArray) (cs := [vB x1.Clash, v1_1_, v1_2_, v1_3_, v1_4_]) rfl rfl) ?_)))
 rintro _ _ ⟨g1, W1, rfl, rfl, l1, b1⟩
 have a2 := l1.o
 refine Lw.g (.slice none 0 0) rfl (Lw.nil (Cw.seq (Cw.region (Lw.m v0_ rfl (Lw.ln x0 (h0.up l1 rfl).rd rfl (Lw.g (vI (x0.length : Int)) rfl (Lw.nil (Cw.seq ?_))))))))
 obtain ⟨K10, hK10, hm⟩ := jn_e hm
 refine Cw.join 8 16 [16] (fun l w => ∃ (y8 : Bool) (W9 : CW), W9.w = w ∧ Le [] W1 W9 ∧ l = [vB y8] ∧ K10 y8 = some r) ?_ ?_
 ·rintro _ _ σ ⟨y8, W9, rfl, l9, rfl, hm⟩
  rw [hK10] at hm
  have a11 := a2.n l9
  have o12 := (h0.up l1 rfl).up l9 rfl
  refine Cw.cond (b := y8) rfl (fun hc18 => ?_) (fun hc18 => ?_)
  ·replace hm := bt hm hc18
   refine Cw.seq (Cw.region (Lw.m v0_ rfl (Lw.g v0_ rfl (Lw.nil ?_))))
   obtain ⟨W19, ew19, l19, o19⟩ := o12.dyeO 31
   have a20 := a11.t l19 rfl
   cases hm
   rw [← ew19]
   exact Cw.ret (ret1 rfl (Res.mk a20 ⟨v0_, rfl, o19.s⟩))
  ·replace hm := bf hm hc18
   refine Cw.skip (Cw.seq ?_)
   obtain ⟨K28, hK28, hm⟩ := jn_e hm
   refine Cw.join 18 33 [33] (fun l w => ∃ (y26 : Bool) (W27 : CW), W27.w = w ∧ Le [] W9 W27 ∧ l = [vB y26] ∧ K28 y26 = some r) ?_ ?_
   ·rintro _ _ σ ⟨y26, W27, rfl, l27, rfl, hm⟩
    rw [hK28] at hm
    have a29 := a11.n l27
    have o31 := ((h1_1.up l1 rfl).up l9 rfl).up l27 rfl
    have b35 := (b1.up l9 rfl).up l27 rfl
    refine Cw.cond (b := y26) rfl (fun hc36 => ?_) (fun hc36 => ?_)
    ·replace hm := bt hm hc36
     refine Cw.seq (Cw.draw [] [(0, 0), (1, 0), (2, 0), (3, 0), (4, 0), (5, 0), (6, 0), (7, 0), (8, 1), (9, 0), (10, 1), (11, 3), (12, 0), (13, 0), (14, 3)] mixed (by kernel_rfl) fun W37 l37 => ?_)
     have a38 := a29.n l37
     have o39 := (o12.up l27 rfl).up l37 rfl
     refine Mw.p rfl rfl (fun _ => R.mv (v := v0_) rfl) (Mw.p rfl rfl (fun _ => R.mv (v := vI (x0.length : Int)) rfl) (Mw.p rfl rfl (fun _ => R.sub rfl rfl) (Mw.p rfl rfl (fun _ => R.mv (v := v0_) rfl) (Mw.p rfl rfl (fun _ => R.mv (v := vI (x0.length : Int)) rfl) (Mw.p rfl rfl (fun _ => R.sub rfl rfl) ?_)))))
     obtain ⟨u45, e46, hm⟩ := ob hm
     refine Mw.p rfl rfl (fun _ => R.ix (α := Part) o39.rd e46 rfl rfl rfl) (Mw.p rfl rfl (fun _ => R.fa rfl) ?_)
     obtain ⟨v47, c48, r49⟩ := (Part.at1 (o39.rd.at_ e46)).cell rfl
     refine Mw.q rfl rfl (fun _ c => R.ld rfl rfl (cl_cell (Part.at1 (o39.rd.at_ e46)).1 rfl c48 c)) (Mw.p rfl rfl (fun _ => R.fa rfl) (Mw.q rfl rfl (fun _ c => R.ld (v := v1_1_) rfl rfl ((b35.up l37 rfl).clc rfl rfl c)) ?_))
     obtain ⟨W50, ew50, l50, o50, oh50⟩ := Ow.take (α := Part) (β := List Str) (j := 8) (jf := 1) o39 e46 c48 rfl
     rw [← ew50]
     have a51 := a38.t l50 rfl
     obtain ⟨q57, e58, hm⟩ := ob hm
     refine Mw.l rfl rfl (T.appP (α := Str) o50 ((o31.up l37 rfl).up l50 rfl).rd rfl rfl e58) ?_
     rintro v59 _ ⟨W59, rfl, l59, o59⟩
     have a60 := a51.t l59 rfl
     obtain ⟨u66, e67, hm⟩ := ob hm
     refine Mw.p rfl rfl (fun _ => R.ix (α := Part) o39.rd e67 rfl rfl rfl) (Mw.p rfl rfl (fun _ => R.fa rfl) ?_)
     obtain ⟨q69, e70, hm⟩ := ob hm
     refine Mw.lu rfl (T.stH (α := Part) (β := List Str) (J := [8]) (oh50.up (l59.sub (M := [8]) rfl) rfl) o59.s e70 rfl rfl rfl rfl) ?_
     rintro _ _ ⟨W68, rfl, l68, o68⟩
     have a71 := a60.t l68 rfl
     refine Mw.nil (Cw.seq (Cw.region (Lw.m v0_ rfl (Lw.g v0_ rfl (Lw.nil ?_)))))
     obtain ⟨W77, ew77, l77, o77⟩ := o68.dyeO 31
     have a78 := a71.t l77 rfl
     cases hm
     rw [← ew77]
     exact Cw.ret (ret1 rfl (Res.mk a78 ⟨v0_, rfl, o77.s⟩))
    ·replace hm := bf hm hc36
     refine Cw.skip (Cw.seq (Cw.region (Lw.m v0_ rfl (Lw.r rfl (R.lda (cs := [vB x1.Clash, v1_1_, v1_2_, v1_3_, v1_4_]) b35.cells rfl rfl) (Lw.t rfl (T.bs 9 [.agg [vB x1.Clash, v1_1_, v1_2_, v1_3_, v1_4_].toArray] (cs := [vB x1.Clash, v1_1_, v1_2_, v1_3_, v1_4_]) rfl rfl (bsA rfl)) ?_)))))
     rintro _ _ ⟨g84, W84, rfl, rfl, l84, b84⟩
     have a85 := a29.n l84
     obtain ⟨q92, e93, hm⟩ := ob hm
     refine Lw.t rfl (T.app1 (α := Part) (J := [3, 4, 5, 6]) (K' := []) ((o12.up l27 rfl).up l84 rfl) b84 (Part.own x1.Clash x1.Lines x1.Old x1.One x1.Two (o31.up l84 rfl).s ((((h1_2.up l1 rfl).up l9 rfl).up l27 rfl).up l84 rfl).s ((((h1_3.up l1 rfl).up l9 rfl).up l27 rfl).up l84 rfl).s ((((h1_4.up l1 rfl).up l9 rfl).up l27 rfl).up l84 rfl).s) rfl rfl e93) ?_
     rintro v94 _ ⟨W94, rfl, l94, o94⟩
     have a95 := a85.t l94 rfl
     refine Lw.g v94 rfl (Lw.nil ?_)
     obtain ⟨W98, ew98, l98, o98⟩ := o94.dyeO 31
     have a99 := a95.t l98 rfl
     cases hm
     rw [← ew98]
     exact Cw.ret (ret1 rfl (Res.mk a99 ⟨v94, rfl, o98.s⟩))
   ·refine Cw.region (Lw.m (vI (x0.length : Int)) rfl (Lw.gt rfl (Lw.m (vB (decide ((0 : Int) < ((x0.length : Int) : Int)))) rfl (bsplit (decide ((0 : Int) < ((x0.length : Int) : Int))) (fun hc102 => ?_) (fun hc102 => ?_)))))
    ·replace hm := bt hm hc102
     refine Lw.wa hc102 rfl (Lw.fa rfl (Lw.wa hc102 rfl (Lw.r rfl (R.ld (v := vB x1.Clash) rfl rfl ((b1.up l9 rfl).cell rfl)) (Lw.wa hc102 rfl (Lw.r rfl (R.not rfl) (Lw.p hc102 (vB (!x1.Clash)) rfl (Lw.m (vB (!x1.Clash)) rfl (bsplit (!x1.Clash) (fun hc103 => ?_) (fun hc103 => ?_)))))))))
     ·replace hm := bt hm hc103
      refine Lw.wa hc103 rfl (Lw.m v0_ rfl (Lw.wa hc103 rfl (Lw.m (vI (x0.length : Int)) rfl (Lw.wa hc103 rfl (Lw.sub rfl (Lw.wa hc103 rfl ?_))))))
      obtain ⟨u104, e105, hm⟩ := ob hm
      refine Lw.r rfl (R.ix (α := Part) o12.rd e105 rfl rfl rfl) (Lw.wa hc103 rfl (Lw.fa rfl (Lw.wa hc103 rfl (Lw.r rfl (R.ld rfl rfl (Part.at0 (o12.rd.at_ e105)).bool) (Lw.wa hc103 rfl (Lw.r rfl (R.not rfl) (Lw.p hc103 (vB (!u104.Clash)) rfl (Lw.nil (⟨?_, ⟨(!u104.Clash), W9, rfl, Le.refl _ _, rfl, hm⟩⟩)))))))))
      iterate 16 (refine .u ?_)
      exact Agree.refl _
     ·replace hm := bf hm hc103
      refine Lw.ps hc103 rfl (Lw.ps hc103 rfl (Lw.ps hc103 rfl (Lw.ps hc103 rfl (Lw.ps hc103 rfl (Lw.ps hc103 rfl (Lw.ps hc103 rfl (Lw.p hc103 (vB false) rfl (Lw.nil (⟨?_, ⟨false, W9, rfl, Le.refl _ _, rfl, hm⟩⟩)))))))))
      iterate 16 (refine .u ?_)
      exact Agree.refl _
    ·replace hm := bf hm hc102
     refine Lw.ps hc102 rfl (Lw.ps hc102 rfl (Lw.ps hc102 rfl (Lw.p hc102 (vB false) rfl (Lw.m (vB false) rfl (Lw.ps rfl rfl (Lw.ps rfl rfl (Lw.ps rfl rfl (Lw.ps rfl rfl (Lw.ps rfl rfl (Lw.ps rfl rfl (Lw.ps rfl rfl (Lw.p rfl (vB false) rfl (Lw.nil (⟨?_, ⟨false, W9, rfl, Le.refl _ _, rfl, hm⟩⟩))))))))))))))
     iterate 16 (refine .u ?_)
     exact Agree.refl _
 ·refine Cw.region (Lw.fa rfl (Lw.r rfl (R.ld (v := vB x1.Clash) rfl rfl (b1.cell rfl)) (Lw.r rfl (R.not rfl) (Lw.m (vB (!x1.Clash)) rfl (bsplit (!x1.Clash) (fun hc106 => ?_) (fun hc106 => ?_))))))
  ·replace hm := bt hm hc106
   refine Lw.wa hc106 rfl (Lw.fa rfl (Lw.wa hc106 rfl (Lw.r rfl (R.ld (v := v1_1_) rfl rfl (b1.cell rfl)) (Lw.wa hc106 rfl (Lw.ln x1.Lines (h1_1.up l1 rfl).rd rfl (Lw.wa hc106 rfl (Lw.eq rfl (Lw.p hc106 (vB (((x1.Lines.length : Int) : Int) == (0 : Int))) rfl (Lw.nil (⟨?_, ⟨(((x1.Lines.length : Int) : Int) == (0 : Int)), W1, rfl, Le.refl _ _, rfl, hm⟩⟩))))))))))
   iterate 9 (refine .u ?_)
   exact Agree.refl _
  ·replace hm := bf hm hc106
   refine Lw.ps hc106 rfl (Lw.ps hc106 rfl (Lw.ps hc106 rfl (Lw.ps hc106 rfl (Lw.p hc106 (vB false) rfl (Lw.nil (⟨?_, ⟨false, W1, rfl, Le.refl _ _, rfl, hm⟩⟩))))))
   iterate 9 (refine .u ?_)
   exact Agree.refl _

theorem p123 {W : CW} {K : List Nat} {x0 : List Vm.Part} {v0_ : Value} {x1 : Vm.Part} {v1_1_ : Value} {v1_2_ : Value} {v1_3_ : Value} {v1_4_ : Value} {k0 : Nat} {c0 : Nat} {c1 : Nat} {c2 : Nat} {c3 : Nat} {c4 : Nat} {r : (List Vm.Part)} (h0 : Ow W c0 [] [v0_] x0) (h1_1 : Ow W c1 [] [v1_1_] x1.Lines) (h1_2 : Ow W c2 [] [v1_2_] x1.Old) (h1_3 : Ow W c3 [] [v1_3_] x1.One) (h1_4 : Ow W c4 [] [v1_4_] x1.Two) (hJ : okJ K [c0, c1, c2, c3, c4] = true) (hm : Vm.spec_l3Put x0 x1 = some r) : CallR Tryz.prog 123 [v0_, .agg [vB x1.Clash, v1_1_, v1_2_, v1_3_, v1_4_].toArray].toArray W.w (Res W [c0, c1, c2, c3, c4] fun W' v => ∃ (u0 : Value), v = u0 ∧ Ow W' k0 [] [u0] r) :=
 CallR.adJ (J := [c0, c1, c2, c3, c4]) (fun c => bif Nat.beq c 0 then 0 else bif Nat.beq c 2 then c0 else bif Nat.beq c 3 then c1 else bif Nat.beq c 4 then c2 else bif Nat.beq c 5 then c3 else bif Nat.beq c 6 then c4 else bif Nat.beq c 31 then k0 else 0) (c123 (V := W.view K [c0, c1, c2, c3, c4]) (h0.viewJ 0 hJ) (h1_1.viewJ 1 hJ) (h1_2.viewJ 2 hJ) (h1_3.viewJ 3 hJ) (h1_4.viewJ 4 hJ) hm) fun _ _ ⟨u0, e, f0⟩ => ⟨u0, e, f0.one1.backN rfl⟩

theorem c120 {V : CW} {x0 : List Str} {v0_ : Value} {x1 : List Str} {v1_ : Value} {x2 : List Str} {v2_ : Value} {r : (List Vm.Part)} (h0 : Rd V [0] [v0_] x0) (h1 : Rd V [0] [v1_] x1) (h2 : Rd V [0] [v2_] x2) (hm : Vm.spec_l3Of x0 x1 x2 = some r) : CallR Tryz.prog 120 [v0_, v1_, v2_].toArray V.w (Res V LL fun Wf v => ∃ (u0 : Value), v = u0 ∧ OwS Wf LL [] [u0] r) := by
 unfold Vm.spec_l3Of at hm
 obtain ⟨W0, hW0⟩ : ∃ W, W = V := ⟨V, rfl⟩
 subst hW0
 refine CallR.of Tryz.func120 rfl rfl rfl rfl (Cw.seq (Cw.region (Lw.g (.slice none 0 0) rfl (Lw.nil (Cw.seq (Cw.region (Lw.t rfl (T.lit0 (α := Part) 2 []) ?_)))))))
 rintro v1 _ ⟨W1, rfl, l1, o1⟩
 have a2 := l1.o
 refine Lw.g v1 rfl (Lw.nil (Cw.seq (Cw.region (Lw.m v0_ rfl (Lw.m v1_ rfl ?_)))))
 obtain ⟨z5, e6, hm⟩ := ob hm
 refine Lw.t rfl (T.call rfl (p122 (K := [0]) (k0 := 3) (h0.ul a2) (h1.ul a2) e6)) ?_
 rintro v0_7 _ ⟨W7, rfl, l7, ⟨_, rfl, f7_0⟩⟩
 have a8 := a2.n l7
 refine Lw.m v1_ rfl (Lw.ln x1 (h1.ul a8) rfl (Lw.t rfl (T.bs 4 [vI (x1.length : Int)] (cs := [vI (x1.length : Int)]) rfl rfl (bsv rfl)) ?_))
 rintro _ _ ⟨g11, W11, rfl, rfl, l11, b11⟩
 have a12 := a8.n l11
 obtain ⟨q15, e16, hm⟩ := ob hm
 refine Lw.t rfl (T.app1S (α := Int) (K' := []) (f7_0.up l11 rfl) b11 (rdI _) rfl rfl e16) ?_
 rintro v17 _ ⟨W17, rfl, l17, o17⟩
 have a18 := a12.t l17 rfl
 refine Lw.g v17 rfl (Lw.nil (Cw.seq (Cw.region (Lw.m v0_ rfl (Lw.m v2_ rfl ?_)))))
 obtain ⟨z23, e24, hm⟩ := ob hm
 refine Lw.t rfl (T.call rfl (p122 (K := [0]) (k0 := 5) (h0.ul a18) (h2.ul a18) e24)) ?_
 rintro v0_25 _ ⟨W25, rfl, l25, ⟨_, rfl, f25_0⟩⟩
 have a26 := a18.n l25
 refine Lw.m v2_ rfl (Lw.ln x2 (h2.ul a26) rfl (Lw.t rfl (T.bs 6 [vI (x2.length : Int)] (cs := [vI (x2.length : Int)]) rfl rfl (bsv rfl)) ?_))
 rintro _ _ ⟨g31, W31, rfl, rfl, l31, b31⟩
 have a32 := a26.n l31
 obtain ⟨q37, e38, hm⟩ := ob hm
 refine Lw.t rfl (T.app1S (α := Int) (K' := []) (f25_0.up l31 rfl) b31 (rdI _) rfl rfl e38) ?_
 rintro v39 _ ⟨W39, rfl, l39, o39⟩
 have a40 := a32.t l39 rfl
 refine Lw.g v39 rfl (Lw.nil (Cw.seq (Cw.region (Lw.g (vI 0) rfl (Lw.nil (Cw.seq (Cw.region (Lw.g (vI 0) rfl (Lw.nil (Cw.seq (Cw.region (Lw.g (vI 0) rfl (Lw.nil (Cw.seq (Cw.seq (Cw.region (Lw.g (vI 0) rfl (Lw.nil (Cw.block ?_)))))))))))))))))))
 obtain ⟨K53, hK53, hm⟩ := jn_e hm
 refine Cw.loop 29 91 [7, 10, 11, 12, 13] (fun m l w => ∃ (y45 : List Vm.Part) (y48 : Int) (y49 : Int) (y50 : Int) (y51 : Int) (v46 : Value) (W52 : CW), W52.w = w ∧ Le [2, 7, 8, 9, 10, 11, 12, 13, 14, 15, 16] W39 W52 ∧ l = [v46, vI y48, vI y49, vI y50, vI y51] ∧ Ow W52 2 [] [v46] y45 ∧ Vm.spec_l3Of_l1 x0 x1 x2 q15 q37 K53 m y45 y48 y49 y50 y51 = some r) (((q15.length : Int) - 0).toNat + 1) ⟨([] : List Part), 0, 0, 0, 0, v1, W39, rfl, Le.refl _ _, rfl, ((((((o1.up l7 rfl).up l11 rfl).up l17 rfl).up l25 rfl).up l31 rfl).up l39 rfl), hm⟩ ?_
 rintro m54 _ _ σ ⟨y45, y48, y49, y50, y51, v46, W52, rfl, l52, rfl, o47, hm⟩
 obtain _ | m54 := m54
 ·cases hm
 unfold Vm.spec_l3Of_l1 at hm
 have a55 := a40.t l52 rfl
 have o56 := (((o17.up l25 rfl).up l31 rfl).up l39 rfl).up l52 rfl
 have o57 := o39.up l52 rfl
 refine Cw.seq (Cw.seq (Cw.region (Lw.m (vI y51) rfl (Lw.m v17 rfl (Lw.ln q15 o56.rd rfl (Lw.lt rfl (Lw.nil (Cw.cond (b := decide ((y51 : Int) < ((q15.length : Int) : Int))) rfl (fun hc60 => ?_) (fun hc60 => ?_)))))))))
 ·replace hm := bt hm hc60
  refine Cw.skip ?_
  obtain ⟨K68, hK68, hm⟩ := jn_e hm
  refine Cw.join 35 91 [7, 10, 11, 12] (fun l w => ∃ (y61 : List Vm.Part) (y64 : Int) (y65 : Int) (y66 : Int) (v62 : Value) (W67 : CW), W67.w = w ∧ Le [2, 7, 8, 9, 10, 11, 12, 13, 14, 15, 16] W52 W67 ∧ l = [v62, vI y64, vI y65, vI y66] ∧ Ow W67 2 [] [v62] y61 ∧ K68 y61 y64 y65 y66 = some r) ?_ ?_
  ·rintro _ _ σ ⟨y61, y64, y65, y66, v62, W67, rfl, l67, rfl, o63, hm⟩
   rw [hK68] at hm
   refine Cw.region (Lw.m (vI y51) rfl (Lw.add rfl (Lw.g (vI (w64 (y51 + 1))) rfl (Lw.nil (⟨?_, m54, Nat.lt_succ_self m54, ⟨y61, y64, y65, y66, w64 (y51 + 1), v62, W67, rfl, (l52.trans l67), rfl, o63, hm⟩⟩)))))
   iterate 7 (refine .u ?_)
   refine Agree.ov0 rfl ?_
   iterate 9 (refine .u ?_)
   exact Agree.base
  ·refine Cw.block (Cw.seq ?_)
   obtain ⟨K76, hK76, hm⟩ := jn_e hm
   refine Cw.join 35 46 [46] (fun l w => ∃ (y74 : Bool) (W75 : CW), W75.w = w ∧ Le [] W52 W75 ∧ l = [vB y74] ∧ K76 y74 = some r) ?_ ?_
   ·rintro _ _ σ ⟨y74, W75, rfl, l75, rfl, hm⟩
    rw [hK76] at hm
    have a77 := a55.n l75
    refine Cw.cond (b := y74) rfl (fun hc83 => ?_) (fun hc83 => ?_)
    ·replace hm := bt hm hc83
     refine Cw.exit (⟨?_, ⟨y45, y48, y49, y50, v46, W75, rfl, (l75.sub rfl), rfl, (o47.up l75 rfl), hm⟩⟩)
     iterate 1 (refine .u ?_)
     refine Agree.ov0 rfl ?_
     exact Agree.refl _
    ·replace hm := bf hm hc83
     refine Cw.skip (Cw.seq (Cw.draw [2, 7, 8, 9, 10] [(0, 0), (1, 0), (2, 0), (3, 0), (4, 0), (5, 0), (6, 0), (7, 0), (8, 0), (9, 0), (10, 1), (11, 0), (12, 0), (13, 0), (14, 0), (15, 0), (16, 0), (17, 1), (18, 0), (19, 2), (20, 2), (21, 0)] mixed (by kernel_rfl) fun W84 l84 => ?_))
     have a85 := a77.n l84
     have o87 := (o56.up l75 rfl).up l84 rfl
     have o88 := (o57.up l75 rfl).up l84 rfl
     refine Mw.p rfl rfl (fun _ => R.mv (v := v46) rfl) (Mw.p rfl rfl (fun _ => R.mv (v := v0_) rfl) (Mw.p rfl rfl (fun _ => R.mv (v := vI y48) rfl) (Mw.p rfl rfl (fun _ => R.mv (v := vI y51) rfl) ?_)))
     obtain ⟨q91, e92, hm⟩ := ob hm
     have r95 := (h0.ul a85).cutV e92
     refine Mw.p rfl rfl (fun _ => R.sl (h0.ul a85) e92 rfl (.inr rfl) (.inr rfl)) (Mw.p rfl rfl (fun _ => R.mv (v := v1_) rfl) (Mw.p rfl rfl (fun _ => R.mv (v := vI y49) rfl) (Mw.p rfl rfl (fun _ => R.mv (v := v17) rfl) (Mw.p rfl rfl (fun _ => R.mv (v := vI y51) rfl) ?_))))
     obtain ⟨u96, e97, hm⟩ := ob hm
     refine Mw.p rfl rfl (fun _ => R.ix (α := Int) o87.rd e97 rfl rfl rfl) (Mw.q rfl rfl (fun _ c => R.ld rfl rfl (cl_cell (o87.rd.at_ e97).1 rfl (o87.rd.at_ e97).int c)) ?_)
     obtain ⟨q98, e99, hm⟩ := ob hm
     have r102 := (h1.ul a85).cutV e99
     refine Mw.p rfl rfl (fun _ => R.sl (h1.ul a85) e99 rfl (.inr rfl) (.inr rfl)) (Mw.p rfl rfl (fun _ => R.mv (v := v2_) rfl) (Mw.p rfl rfl (fun _ => R.mv (v := vI y50) rfl) (Mw.p rfl rfl (fun _ => R.mv (v := v39) rfl) (Mw.p rfl rfl (fun _ => R.mv (v := vI y51) rfl) ?_))))
     obtain ⟨u103, e104, hm⟩ := ob hm
     refine Mw.p rfl rfl (fun _ => R.ix (α := Int) o88.rd e104 rfl rfl rfl) (Mw.q rfl rfl (fun _ c => R.ld rfl rfl (cl_cell (o88.rd.at_ e104).1 rfl (o88.rd.at_ e104).int c)) ?_)
     obtain ⟨q105, e106, hm⟩ := ob hm
     have r109 := (h2.ul a85).cutV e106
     refine Mw.p rfl rfl (fun _ => R.sl (h2.ul a85) e106 rfl (.inr rfl) (.inr rfl)) ?_
     obtain ⟨z110, e111, hm⟩ := ob hm
     refine Mw.t rfl rfl (T.call rfl (p124 (K := [0]) (k0 := 7) (k1 := 8) (k2 := 9) (k3 := 10) r95 r102 r109 e111)) ?_
     rintro _ _ ⟨W112, rfl, l112, ⟨v0_1_112, v0_2_112, v0_3_112, v0_4_112, rfl, f112_0, f112_1, f112_2, f112_3⟩⟩
     have a113 := a85.n l112
     refine ⟨⟨_, rfl, (l112.sub (M := [2, 7, 8, 9, 10]) rfl)⟩, ?_⟩
     obtain ⟨z119, e120, hm⟩ := ob hm
     refine Mw.t rfl rfl (T.call rfl (p123 (K := [0]) (k0 := 11) (c0 := 2) (c1 := 7) (c2 := 8) (c3 := 9) (c4 := 10) (x1 := (Vm.Part.mk z110.Clash z110.Lines z110.Old z110.One z110.Two)) (((o47.up l75 rfl).up l84 rfl).up l112 rfl) f112_0 f112_1 f112_2 f112_3 rfl e120)) ?_
     rintro v0_121 _ ⟨W121, rfl, l121, ⟨_, rfl, f121_0⟩⟩
     have a122 := a113.t l121 rfl
     refine ⟨⟨_, rfl, ((l112.sub (M := [2, 7, 8, 9, 10]) rfl).trans (l121.sub (M := [2, 7, 8, 9, 10]) rfl))⟩, ?_⟩
     refine Mw.p rfl rfl (fun _ => R.as (v := v0_121) rfl) (Mw.nil ?_)
     obtain ⟨K131, hK131, hm⟩ := jn_e hm
     refine Cw.join 68 79 [7] (fun l w => ∃ (y127 : List Vm.Part) (v128 : Value) (W130 : CW), W130.w = w ∧ Le [11, 12, 13, 14, 15, 16] W121 W130 ∧ l = [v128] ∧ Ow W130 11 [] [v128] y127 ∧ K131 y127 = some r) ?_ ?_
     ·rintro _ _ σ ⟨y127, v128, W130, rfl, l130, rfl, o129, hm⟩
      rw [hK131] at hm
      have o133 := ((o87.up l112 rfl).up l121 rfl).up l130 rfl
      have o134 := ((o88.up l112 rfl).up l121 rfl).up l130 rfl
      refine Cw.seq (Cw.region (Lw.m (vI y51) rfl (Lw.add rfl (Lw.g (vI (w64 (y51 + 1))) rfl (Lw.nil (Cw.seq (Cw.region (Lw.m v17 rfl (Lw.m (vI y51) rfl ?_)))))))))
      obtain ⟨u137, e138, hm⟩ := ob hm
      refine Lw.r rfl (R.ix (α := Int) o133.rd e138 rfl rfl rfl) (Lw.r rfl (R.ld rfl rfl (o133.rd.at_ e138).int) (Lw.add rfl (Lw.g (vI (w64 (u137 + 1))) rfl (Lw.nil (Cw.region (Lw.m v39 rfl (Lw.m (vI y51) rfl ?_)))))))
      obtain ⟨u139, e140, hm⟩ := ob hm
      refine Lw.r rfl (R.ix (α := Int) o134.rd e140 rfl rfl rfl) (Lw.r rfl (R.ld rfl rfl (o134.rd.at_ e140).int) (Lw.add rfl (Lw.g (vI (w64 (u139 + 1))) rfl (Lw.nil ?_))))
      obtain ⟨W141, ew141, l141, o141⟩ := o129.dyeO 2
      refine ⟨?_, ⟨y127, w64 (y51 + 1), w64 (u137 + 1), w64 (u139 + 1), v128, W141, ew141, ((l75.sub rfl).trans ((l84.sub rfl).trans ((l112.sub rfl).trans ((l121.sub rfl).trans ((l130.sub rfl).trans (l141.sub rfl)))))), rfl, o141, hm⟩⟩
      iterate 16 (refine .u ?_)
      refine Agree.ov0 rfl ?_
      iterate 23 (refine .u ?_)
      refine Agree.ov0 rfl ?_
      exact Agree.refl _
     ·refine Cw.seq (Cw.region (Lw.m (vI y51) rfl (Lw.m v0_ rfl (Lw.ln x0 (h0.ul a122) rfl (Lw.lt rfl (Lw.nil (Cw.cond (b := decide ((y51 : Int) < ((x0.length : Int) : Int))) rfl (fun hc148 => ?_) (fun hc148 => ?_))))))))
      ·replace hm := bt hm hc148
       refine Cw.region (Lw.m v0_121 rfl (Lw.m v0_ rfl (Lw.m (vI y51) rfl ?_)))
       obtain ⟨u149, e150, hm⟩ := ob hm
       refine Lw.r rfl (R.ix (α := Str) (h0.ul a122) e150 rfl rfl rfl) (Lw.r rfl (R.ld rfl rfl ((h0.ul a122).at_ e150).str) (Lw.t rfl (T.bsS (α := Str) (xs := [u149]) 12 [] (W := W121) [vS u149] (Each.cons ((rdS _)) Each.nil) rfl) ?_))
       rintro v151 _ ⟨W151, rfl, l151, o151⟩
       refine Lw.r rfl (R.bd (zs := [vB false, .slice none 0 0, .slice none 0 0, .slice none 0 0, .slice none 0 0]) (cs := [vB false, v151, .slice none 0 0, .slice none 0 0, .slice none 0 0]) [(1, v151)] rfl rfl rfl (bp_cons o151.oc rfl bp_nil)) ?_
       obtain ⟨z158, e159, hm⟩ := ob hm
       refine Lw.t rfl (T.call rfl (p123 (K := [0]) (k0 := 16) (c0 := 11) (c1 := 12) (c2 := 13) (c3 := 14) (c4 := 15) (x1 := (Vm.Part.mk false ([u149] : List Str) ([] : List Str) ([] : List Str) ([] : List Str))) (f121_0.up l151 rfl) o151 (owN 13 []) (owN 14 []) (owN 15 []) rfl e159)) ?_
       rintro v0_160 _ ⟨W160, rfl, l160, ⟨_, rfl, f160_0⟩⟩
       refine Lw.g v0_160 rfl (Lw.nil ?_)
       obtain ⟨W166, ew166, l166, o166⟩ := f160_0.dyeO 11
       refine ⟨?_, ⟨z158, v0_160, W166, ew166, ((l151.sub rfl).trans ((l160.sub rfl).trans (l166.sub rfl))), rfl, o166, hm⟩⟩
       iterate 13 (refine .u ?_)
       exact Agree.refl _
      ·replace hm := bf hm hc148
       refine Cw.skip (⟨?_, ⟨z119, v0_121, W121, rfl, Le.refl _ _, rfl, f121_0, hm⟩⟩)
       iterate 4 (refine .u ?_)
       exact Agree.refl _
   ·refine Cw.region (Lw.m v17 rfl (Lw.m (vI y51) rfl ?_))
    obtain ⟨u172, e173, hm⟩ := ob hm
    refine Lw.r rfl (R.ix (α := Int) o56.rd e173 rfl rfl rfl) (Lw.r rfl (R.ld rfl rfl (o56.rd.at_ e173).int) (Lw.lt rfl (Lw.m (vB (decide ((u172 : Int) < (0 : Int)))) rfl (bsplit (decide ((u172 : Int) < (0 : Int))) (fun hc174 => ?_) (fun hc174 => ?_)))))
    ·replace hm := bt hm hc174
     refine Lw.ps hc174 rfl (Lw.ps hc174 rfl (Lw.ps hc174 rfl (Lw.ps hc174 rfl (Lw.ps hc174 rfl (Lw.p hc174 (vB true) rfl (Lw.nil (⟨?_, ⟨true, W52, rfl, Le.refl _ _, rfl, hm⟩⟩)))))))
     iterate 12 (refine .u ?_)
     exact Agree.refl _
    ·replace hm := bf hm hc174
     refine Lw.wa hc174 rfl (Lw.m v39 rfl (Lw.wa hc174 rfl (Lw.m (vI y51) rfl (Lw.wa hc174 rfl ?_))))
     obtain ⟨u175, e176, hm⟩ := ob hm
     refine Lw.r rfl (R.ix (α := Int) o57.rd e176 rfl rfl rfl) (Lw.wa hc174 rfl (Lw.r rfl (R.ld rfl rfl (o57.rd.at_ e176).int) (Lw.wa hc174 rfl (Lw.lt rfl (Lw.p hc174 (vB (decide ((u175 : Int) < (0 : Int)))) rfl (Lw.nil (⟨?_, ⟨decide ((u175 : Int) < (0 : Int)), W52, rfl, Le.refl _ _, rfl, hm⟩⟩)))))))
     iterate 12 (refine .u ?_)
     exact Agree.refl _
 ·replace hm := bf hm hc60
  refine Cw.exit ?_
  rw [hK53] at hm
  refine Cw.seq (Cw.region (Lw.m v46 rfl (Lw.g v46 rfl (Lw.nil ?_))))
  cases hm
  exact Cw.ret (ret1 rfl (Res.mk a55 ⟨v46, rfl, o47.s.sub rfl rfl⟩))

theorem p120 {W : CW} {K : List Nat} {x0 : List Str} {v0_ : Value} {x1 : List Str} {v1_ : Value} {x2 : List Str} {v2_ : Value} {k0 : Nat} {r : (List Vm.Part)} (h0 : Rd W K [v0_] x0) (h1 : Rd W K [v1_] x1) (h2 : Rd W K [v2_] x2) (hm : Vm.spec_l3Of x0 x1 x2 = some r) : CallR Tryz.prog 120 [v0_, v1_, v2_].toArray W.w (Res W [] fun W' v => ∃ (u0 : Value), v = u0 ∧ Ow W' k0 [] [u0] r) :=
 (c120 (V := W.view K []) (h0.view _) (h1.view _) (h2.view _) hm).ad (fk k0) fun _ _ ⟨u0, e, f0⟩ => ⟨u0, e, f0.back (fk_LL _)⟩

theorem c119 {V : CW} {x0 : List Vm.Part} {v0_ : Value} {r : (List Str) × Bool} (h0 : Rd V [0] [v0_] x0) (hm : Vm.spec_l3Text x0 = some r) : CallR Tryz.prog 119 [v0_].toArray V.w (Res V LL fun Wf v => ∃ (u0 : Value), v = .tuple [u0, vB r.2].toArray ∧ OwS Wf LL [] [u0] r.1) := by
 unfold Vm.spec_l3Text at hm
 obtain ⟨W0, hW0⟩ : ∃ W, W = V := ⟨V, rfl⟩
 subst hW0
 refine CallR.of Tryz.func119 rfl rfl rfl rfl (Cw.seq (Cw.region (Lw.g (.slice none 0 0) rfl (Lw.g (vB false) rfl (Lw.nil (Cw.seq (Cw.region (Lw.t rfl (T.lit0 (α := Str) 2 []) ?_))))))))
 rintro v1 _ ⟨W1, rfl, l1, o1⟩
 have a2 := l1.o
 refine Lw.g v1 rfl (Lw.nil (Cw.seq (Cw.seq (Cw.region (Lw.g (vI 0) rfl (Lw.nil (Cw.block ?_)))))))
 obtain ⟨K12, hK12, hm⟩ := jn_e hm
 refine Cw.loop 7 24 [2, 3, 4, 5] (fun m l w => ∃ (y3 : List Str) (y6 : Bool) (y7 : List Str) (y10 : Int) (v4 v8 : Value) (W11 : CW), W11.w = w ∧ Le [2] W1 W11 ∧ l = [v4, vB y6, v8, vI y10] ∧ Ow W11 3 [] [v4] y3 ∧ Ow W11 2 [] [v8] y7 ∧ Vm.spec_l3Text_l1 x0 K12 m y3 y6 y7 y10 = some r) (((x0.length : Int) - 0).toNat + 1) ⟨([] : List Str), false, ([] : List Str), 0, .slice none 0 0, v1, W1, rfl, Le.refl _ _, rfl, owN 3 [], o1, hm⟩ ?_
 rintro m13 _ _ σ ⟨y3, y6, y7, y10, v4, v8, W11, rfl, l11, rfl, o5, o9, hm⟩
 obtain _ | m13 := m13
 ·cases hm
 unfold Vm.spec_l3Text_l1 at hm
 have a14 := a2.t l11 rfl
 refine Cw.seq (Cw.seq (Cw.region ?_))
 have s15 := h0.ul a14
 refine Lw.m (vI y10) rfl (Lw.m v0_ rfl (Lw.ln x0 s15 rfl (Lw.lt rfl (Lw.nil (Cw.cond (b := decide ((y10 : Int) < ((x0.length : Int) : Int))) rfl (fun hc16 => ?_) (fun hc16 => ?_))))))
 ·replace hm := bt hm hc16
  refine Cw.skip (Cw.seq (Cw.block (Cw.seq (Cw.seq (Cw.region (Lw.m v0_ rfl (Lw.m (vI y10) rfl ?_)))))))
  obtain ⟨u17, e18, hm⟩ := ob hm
  refine Lw.r rfl (R.ix (α := Part) s15 e18 rfl rfl rfl) (Lw.fa rfl (Lw.r rfl (R.ld rfl rfl (Part.at0 (s15.at_ e18)).bool) (Lw.nil (Cw.cond (b := u17.Clash) rfl (fun hc19 => ?_) (fun hc19 => ?_)))))
  ·replace hm := bt hm hc19
   refine Cw.seq (Cw.region (Lw.g (.slice none 0 0) rfl (Lw.g (vB false) rfl (Lw.nil ?_))))
   cases hm
   exact Cw.ret (ret2 rfl rfl (Res.mk a14 ⟨.slice none 0 0, rfl, (owsN []).sub rfl rfl⟩))
  ·replace hm := bf hm hc19
   refine Cw.skip (Cw.region (Lw.m v8 rfl (Lw.m v0_ rfl (Lw.m (vI y10) rfl ?_))))
   obtain ⟨u20, e21, hm⟩ := ob hm
   refine Lw.r rfl (R.ix (α := Part) s15 e21 rfl rfl rfl) (Lw.fa rfl ?_)
   obtain ⟨v22, c23, r24⟩ := (Part.at1 (s15.at_ e21)).cell rfl
   refine Lw.r rfl (R.ld rfl rfl c23) ?_
   obtain ⟨q25, e26, hm⟩ := ob hm
   refine Lw.t rfl (T.appP (α := Str) o9 r24 rfl rfl e26) ?_
   rintro v27 _ ⟨W27, rfl, l27, o27⟩
   refine Lw.g v27 rfl (Lw.nil (Cw.region (Lw.m (vI y10) rfl (Lw.add rfl (Lw.g (vI (w64 (y10 + 1))) rfl (Lw.nil (⟨?_, m13, Nat.lt_succ_self m13, ⟨y3, y6, q25, w64 (y10 + 1), v4, v27, W27, rfl, (l11.trans l27), rfl, (o5.up l27 rfl), o27, hm⟩⟩)))))))
   iterate 24 (refine .u ?_)
   exact Agree.base
 ·replace hm := bf hm hc16
  refine Cw.exit ?_
  rw [hK12] at hm
  refine Cw.seq (Cw.seq (Cw.region (Lw.m v8 rfl ?_)))
  obtain ⟨z30, e31, hm⟩ := ob hm
  refine Lw.t rfl (T.call rfl (p62 (K := [2])  o9.rd e31)) ?_
  rintro _ _ ⟨W32, rfl, l32, rfl⟩
  have a33 := a14.n l32
  refine Lw.r rfl (R.not rfl) (Lw.nil (Cw.cond (b := (!z30)) rfl (fun hc36 => ?_) (fun hc36 => ?_)))
  ·replace hm := bt hm hc36
   refine Cw.seq (Cw.region (Lw.g (.slice none 0 0) rfl (Lw.g (vB false) rfl (Lw.nil ?_))))
   cases hm
   exact Cw.ret (ret2 rfl rfl (Res.mk a33 ⟨.slice none 0 0, rfl, (owsN []).sub rfl rfl⟩))
  ·replace hm := bf hm hc36
   refine Cw.skip (Cw.seq (Cw.region (Lw.m v8 rfl (Lw.g v8 rfl (Lw.g (vB true) rfl (Lw.nil ?_))))))
   cases hm
   exact Cw.ret (ret2 rfl rfl (Res.mk a33 ⟨v8, rfl, (o9.up l32 rfl).s.sub rfl rfl⟩))

theorem p119 {W : CW} {K : List Nat} {x0 : List Vm.Part} {v0_ : Value} {k0 : Nat} {r : (List Str) × Bool} (h0 : Rd W K [v0_] x0) (hm : Vm.spec_l3Text x0 = some r) : CallR Tryz.prog 119 [v0_].toArray W.w (Res W [] fun W' v => ∃ (u0 : Value), v = .tuple [u0, vB r.2].toArray ∧ Ow W' k0 [] [u0] r.1) :=
 (c119 (V := W.view K []) (h0.view _) hm).ad (fk k0) fun _ _ ⟨u0, e, f0⟩ => ⟨u0, e, f0.back (fk_LL _)⟩

theorem c115 {V : CW} {x0 : List Vm.File} {v0_ : Value} {x1 : List Vm.File} {v1_ : Value} {x2 : List Vm.File} {v2_ : Value} {x3 : Str} {r : (List Str) × Bool × Int} (h0 : Rd V [0] [v0_] x0) (h1 : Rd V [0] [v1_] x1) (h2 : Rd V [0] [v2_] x2) (hm : Vm.spec_l6One x0 x1 x2 x3 = some r) : CallR Tryz.prog 115 [v0_, v1_, v2_, vS x3].toArray V.w (Res V LL fun Wf v => ∃ (u0 : Value), v = .tuple [u0, vB r.2.1, vI r.2.2].toArray ∧ Rd Wf [0] [u0] r.1) := by
 unfold Vm.spec_l6One at hm
 obtain ⟨W0, hW0⟩ : ∃ W, W = V := ⟨V, rfl⟩
 subst hW0
 refine CallR.of Tryz.func115 rfl rfl rfl rfl (Cw.seq (Cw.region (Lw.g (.slice none 0 0) rfl (Lw.g (vB false) rfl (Lw.g (vI 0) rfl (Lw.nil (Cw.seq (Cw.region (Lw.m v0_ rfl (Lw.m (vS x3) rfl ?_))))))))))
 obtain ⟨z1, e2, hm⟩ := ob hm
 refine Lw.t rfl (T.call rfl (p117 (K := [0])  h0 e2)) ?_
 rintro _ _ ⟨W3, rfl, l3, ⟨v0_3, rfl, f3_0⟩⟩
 have s4 := f3_0.sub (M := [0]) rfl
 have a5 := l3.o
 refine Lw.m (.tuple [v0_3, vB z1.2].toArray) rfl (Lw.r rfl (R.ext (vs := [v0_3, vB z1.2]) (v := v0_3) rfl rfl) (Lw.r rfl (R.ext (vs := [v0_3, vB z1.2]) (v := vB z1.2) rfl rfl) (Lw.g v0_3 rfl (Lw.g (vB z1.2) rfl (Lw.nil (Cw.seq (Cw.region (Lw.m v1_ rfl (Lw.m (vS x3) rfl ?_)))))))))
 obtain ⟨z7, e8, hm⟩ := ob hm
 refine Lw.t rfl (T.call rfl (p117 (K := [0])  (h1.ul a5) e8)) ?_
 rintro _ _ ⟨W9, rfl, l9, ⟨v0_9, rfl, f9_0⟩⟩
 have s10 := f9_0.sub (M := [0]) rfl
 have a11 := l9.o
 refine Lw.m (.tuple [v0_9, vB z7.2].toArray) rfl (Lw.r rfl (R.ext (vs := [v0_9, vB z7.2]) (v := v0_9) rfl rfl) (Lw.r rfl (R.ext (vs := [v0_9, vB z7.2]) (v := vB z7.2) rfl rfl) (Lw.g v0_9 rfl (Lw.g (vB z7.2) rfl (Lw.nil (Cw.seq (Cw.region (Lw.m v2_ rfl (Lw.m (vS x3) rfl ?_)))))))))
 obtain ⟨z13, e14, hm⟩ := ob hm
 refine Lw.t rfl (T.call rfl (p117 (K := [0])  (h2.ul (a5.trans a11)) e14)) ?_
 rintro _ _ ⟨W15, rfl, l15, ⟨v0_15, rfl, f15_0⟩⟩
 have s16 := f15_0.sub (M := [0]) rfl
 have a17 := l15.o
 refine Lw.m (.tuple [v0_15, vB z13.2].toArray) rfl (Lw.r rfl (R.ext (vs := [v0_15, vB z13.2]) (v := v0_15) rfl rfl) (Lw.r rfl (R.ext (vs := [v0_15, vB z13.2]) (v := vB z13.2) rfl rfl) (Lw.g v0_15 rfl (Lw.g (vB z13.2) rfl (Lw.nil (Cw.seq (Cw.block ?_)))))))
 obtain ⟨K20, hK20, hm⟩ := jn_e hm
 refine Cw.join 37 47 [37] (fun l w => ∃ (y18 : Bool) (W19 : CW), W19.w = w ∧ Le [] W15 W19 ∧ l = [vB y18] ∧ K20 y18 = some r) ?_ ?_
 ·rintro _ _ σ ⟨y18, W19, rfl, l19, rfl, hm⟩
  rw [hK20] at hm
  have a21 := l19.o
  refine Cw.cond (b := y18) rfl (fun hc22 => ?_) (fun hc22 => ?_)
  ·replace hm := bt hm hc22
   refine Cw.seq (Cw.region (Lw.m v0_15 rfl (Lw.m (vB z13.2) rfl (Lw.g v0_15 rfl (Lw.g (vB z13.2) rfl (Lw.g (vI 0) rfl (Lw.nil ?_)))))))
   cases hm
   exact Cw.ret (ret3 rfl rfl rfl (Res.mk (((a5.trans a11).trans a17).trans a21) ⟨v0_15, rfl, (s16.ul a21)⟩))
  ·replace hm := bf hm hc22
   refine Cw.seq (Cw.region (Lw.m v0_15 rfl (Lw.m (vB z13.2) rfl (Lw.m v0_3 rfl (Lw.m (vB z1.2) rfl ?_)))))
   obtain ⟨z26, e27, hm⟩ := ob hm
   refine Lw.t rfl (T.call rfl (p118 (K := [0])  (s16.ul a21) (s4.ul ((a11.trans a17).trans a21)) e27)) ?_
   rintro _ _ ⟨W28, rfl, l28, rfl⟩
   have a29 := l28.o
   refine Lw.g (vB z26) rfl (Lw.nil (Cw.cond (b := z26) rfl (fun hc30 => ?_) (fun hc30 => ?_)))
   ·replace hm := bt hm hc30
    refine Cw.seq (Cw.region (Lw.m v0_9 rfl (Lw.m (vB z7.2) rfl (Lw.g v0_9 rfl (Lw.g (vB z7.2) rfl (Lw.g (vI 0) rfl (Lw.nil ?_)))))))
    cases hm
    exact Cw.ret (ret3 rfl rfl rfl (Res.mk ((((a5.trans a11).trans a17).trans a21).trans a29) ⟨v0_9, rfl, (s10.ul ((a17.trans a21).trans a29))⟩))
   ·replace hm := bf hm hc30
    obtain ⟨K34, hK34, hm⟩ := jn_e hm
    refine Cw.join 58 64 [58] (fun l w => ∃ (y32 : Bool) (W33 : CW), W33.w = w ∧ Le [] W28 W33 ∧ l = [vB y32] ∧ K34 y32 = some r) ?_ ?_
    ·rintro _ _ σ ⟨y32, W33, rfl, l33, rfl, hm⟩
     rw [hK34] at hm
     have a35 := l33.o
     refine Cw.cond (b := y32) rfl (fun hc36 => ?_) (fun hc36 => ?_)
     ·replace hm := bt hm hc36
      refine Cw.seq (Cw.region (Lw.m v0_3 rfl (Lw.m (vB z1.2) rfl (Lw.g v0_3 rfl (Lw.g (vB z1.2) rfl (Lw.g (vI 1) rfl (Lw.nil ?_)))))))
      cases hm
      exact Cw.ret (ret3 rfl rfl rfl (Res.mk (((((a5.trans a11).trans a17).trans a21).trans a29).trans a35) ⟨v0_3, rfl, (s4.ul ((((a11.trans a17).trans a21).trans a29).trans a35))⟩))
     ·replace hm := bf hm hc36
      refine Cw.seq (Cw.region (Lw.m (vB z1.2) rfl (Lw.r rfl (R.not rfl) (Lw.g (vB (!z1.2)) rfl (Lw.nil (Cw.cond (b := (!z1.2)) rfl (fun hc38 => ?_) (fun hc38 => ?_)))))))
      ·replace hm := bt hm hc38
       refine Cw.seq (Cw.region (Lw.g (.slice none 0 0) rfl (Lw.g (vB false) rfl (Lw.g (vI 2) rfl (Lw.nil ?_)))))
       cases hm
       exact Cw.ret (ret3 rfl rfl rfl (Res.mk (((((a5.trans a11).trans a17).trans a21).trans a29).trans a35) ⟨.slice none 0 0, rfl, (rdN (K := [0]))⟩))
      ·replace hm := bf hm hc38
       refine Cw.skip (Cw.seq (Cw.region (Lw.m v0_3 rfl (Lw.m v0_9 rfl (Lw.m v0_15 rfl ?_)))))
       obtain ⟨z42, e43, hm⟩ := ob hm
       refine Lw.t rfl (T.call rfl (p120 (K := [0]) (k0 := 2) (s4.ul ((((a11.trans a17).trans a21).trans a29).trans a35)) (s10.ul (((a17.trans a21).trans a29).trans a35)) (s16.ul ((a21.trans a29).trans a35)) e43)) ?_
       rintro v0_44 _ ⟨W44, rfl, l44, ⟨_, rfl, f44_0⟩⟩
       have a45 := l44.o
       obtain ⟨z46, e47, hm⟩ := ob hm
       refine Lw.t rfl (T.call rfl (p119 (K := [2]) (k0 := 3) f44_0.rd e47)) ?_
       rintro _ _ ⟨W48, rfl, l48, ⟨v0_48, rfl, f48_0⟩⟩
       have a49 := l48.o
       refine Lw.m (.tuple [v0_48, vB z46.2].toArray) rfl (Lw.r rfl (R.ext (vs := [v0_48, vB z46.2]) (v := v0_48) rfl rfl) (Lw.r rfl (R.ext (vs := [v0_48, vB z46.2]) (v := vB z46.2) rfl rfl) (Lw.g v0_48 rfl (Lw.g (vB z46.2) rfl (Lw.nil (Cw.seq (Cw.seq (Cw.region (Lw.m (vB z46.2) rfl (Lw.r rfl (R.not rfl) (Lw.nil (Cw.cond (b := (!z46.2)) rfl (fun hc51 => ?_) (fun hc51 => ?_)))))))))))))
       ·replace hm := bt hm hc51
        refine Cw.seq (Cw.region (Lw.m v0_3 rfl (Lw.g v0_3 rfl (Lw.g (vB true) rfl (Lw.g (vI 3) rfl (Lw.nil ?_))))))
        cases hm
        exact Cw.ret (ret3 rfl rfl rfl (Res.mk (((((((a5.trans a11).trans a17).trans a21).trans a29).trans a35).trans a45).trans a49) ⟨v0_3, rfl, (s4.ul ((((((a11.trans a17).trans a21).trans a29).trans a35).trans a45).trans a49))⟩))
       ·replace hm := bf hm hc51
        refine Cw.skip (Cw.seq (Cw.region (Lw.m v0_48 rfl (Lw.g v0_48 rfl (Lw.g (vB true) rfl (Lw.g (vI 0) rfl (Lw.nil ?_)))))))
        obtain ⟨W53, ew53, l53, dj53⟩ := dyeE _ 3
        have s54 : Rd (α := List Str) W53 [0] [v0_48] z46.1 := by rw [dj53]; exact (f48_0.rd.dye 3).sub (M := [0]) rfl
        have a55 := (((((((a5.trans a11).trans a17).trans a21).trans a29).trans a35).trans a45).trans a49).t l53 rfl
        cases hm
        rw [← ew53]
        exact Cw.ret (ret3 rfl rfl rfl (Res.mk a55 ⟨v0_48, rfl, s54⟩))
    ·refine Cw.region (Lw.m (vB z7.2) rfl (Lw.r rfl (R.not rfl) (Lw.m (vB (!z7.2)) rfl (bsplit (!z7.2) (fun hc57 => ?_) (fun hc57 => ?_)))))
     ·replace hm := bt hm hc57
      refine Lw.ps hc57 rfl (Lw.ps hc57 rfl (Lw.p hc57 (vB true) rfl (Lw.g (vB true) rfl (Lw.nil (⟨?_, ⟨true, W28, rfl, Le.refl _ _, rfl, hm⟩⟩)))))
      iterate 7 (refine .u ?_)
      exact Agree.refl _
     ·replace hm := bf hm hc57
      refine Lw.wa hc57 rfl (Lw.m (vB z13.2) rfl (Lw.wa hc57 rfl (Lw.r rfl (R.not rfl) (Lw.p hc57 (vB (!z13.2)) rfl (Lw.g (vB (!z13.2)) rfl (Lw.nil (⟨?_, ⟨(!z13.2), W28, rfl, Le.refl _ _, rfl, hm⟩⟩)))))))
      iterate 7 (refine .u ?_)
      exact Agree.refl _
 ·refine Cw.seq (Cw.region (Lw.m v0_9 rfl (Lw.m (vB z7.2) rfl (Lw.m v0_3 rfl (Lw.m (vB z1.2) rfl ?_)))))
  obtain ⟨z60, e61, hm⟩ := ob hm
  refine Lw.t rfl (T.call rfl (p118 (K := [0])  (s10.ul a17) (s4.ul (a11.trans a17)) e61)) ?_
  rintro _ _ ⟨W62, rfl, l62, rfl⟩
  have a63 := l62.o
  refine Lw.g (vB z60) rfl (Lw.nil (Cw.cond (b := z60) rfl (fun hc64 => ?_) (fun hc64 => ?_)))
  ·replace hm := bt hm hc64
   refine Cw.skip (⟨?_, ⟨z60, W62, rfl, l62, rfl, hm⟩⟩)
   iterate 6 (refine .u ?_)
   exact Agree.refl _
  ·replace hm := bf hm hc64
   refine Cw.region (Lw.m v0_9 rfl (Lw.m (vB z7.2) rfl (Lw.m v0_15 rfl (Lw.m (vB z13.2) rfl ?_))))
   obtain ⟨z67, e68, hm⟩ := ob hm
   refine Lw.t rfl (T.call rfl (p118 (K := [0])  (s10.ul (a17.trans a63)) (s16.ul a63) e68)) ?_
   rintro _ _ ⟨W69, rfl, l69, rfl⟩
   refine Lw.g (vB z67) rfl (Lw.nil (⟨?_, ⟨z67, W69, rfl, (l62.trans l69), rfl, hm⟩⟩))
   iterate 12 (refine .u ?_)
   exact Agree.refl _

theorem p115 {W : CW} {K : List Nat} {x0 : List Vm.File} {v0_ : Value} {x1 : List Vm.File} {v1_ : Value} {x2 : List Vm.File} {v2_ : Value} {x3 : Str} {r : (List Str) × Bool × Int} (h0 : Rd W K [v0_] x0) (h1 : Rd W K [v1_] x1) (h2 : Rd W K [v2_] x2) (hm : Vm.spec_l6One x0 x1 x2 x3 = some r) : CallR Tryz.prog 115 [v0_, v1_, v2_, vS x3].toArray W.w (Res W [] fun W' v => ∃ (u0 : Value), v = .tuple [u0, vB r.2.1, vI r.2.2].toArray ∧ Rd W' (0 :: K) [u0] r.1) :=
 (c115 (V := W.view K []) (h0.view _) (h1.view _) (h2.view _) hm).ad (fk 0) fun _ _ ⟨u0, e, f0⟩ => ⟨u0, e, f0.back rfl⟩

theorem c112 {V : CW} {x0 : List Vm.File} {v0_ : Value} {x1 : List Vm.File} {v1_ : Value} {x2 : List Vm.File} {v2_ : Value} {r : (List Vm.File) × (List Vm.Clash)} (h0 : Rd V [0] [v0_] x0) (h1 : Rd V [0] [v1_] x1) (h2 : Rd V [0] [v2_] x2) (hm : Vm.spec_l6Of x0 x1 x2 = some r) : CallR Tryz.prog 112 [v0_, v1_, v2_].toArray V.w (Res V LL fun Wf v => ∃ (u0 : Value) (u1 : Value), v = .tuple [u0, u1].toArray ∧ OwS Wf [31] [] [u0] r.1 ∧ OwS Wf [32] [] [u1] r.2) := by
 unfold Vm.spec_l6Of at hm
 obtain ⟨W0, hW0⟩ : ∃ W, W = V := ⟨V, rfl⟩
 subst hW0
 refine CallR.of Tryz.func112 rfl rfl rfl rfl (Cw.seq (Cw.region (Lw.g (.slice none 0 0) rfl (Lw.g (.slice none 0 0) rfl (Lw.nil (Cw.seq (Cw.region (Lw.t rfl (T.lit0 (α := File) 2 []) ?_))))))))
 rintro v1 _ ⟨W1, rfl, l1, o1⟩
 have a2 := l1.o
 refine Lw.g v1 rfl (Lw.nil (Cw.seq (Cw.region (Lw.t rfl (T.lit0 (α := Clash) 3 []) ?_))))
 rintro v3 _ ⟨W3, rfl, l3, o3⟩
 have a4 := a2.n l3
 refine Lw.g v3 rfl (Lw.nil (Cw.seq (Cw.region (Lw.m v0_ rfl (Lw.m v1_ rfl (Lw.m v2_ rfl ?_))))))
 obtain ⟨z9, e10, hm⟩ := ob hm
 refine Lw.t rfl (T.call rfl (p114 (K := [0])  (h0.ul a4) (h1.ul a4) (h2.ul a4) e10)) ?_
 rintro v0_11 _ ⟨W11, rfl, l11, ⟨_, rfl, f11_0⟩⟩
 have s12 := f11_0.sub (M := [0]) rfl
 have a13 := a4.n l11
 refine Lw.g v0_11 rfl (Lw.nil (Cw.seq (Cw.seq (Cw.region (Lw.g (vI 0) rfl (Lw.nil (Cw.block ?_)))))))
 obtain ⟨K27, hK27, hm⟩ := jn_e hm
 refine Cw.loop 21 61 [8, 9, 11, 12, 13, 14] (fun m l w => ∃ (y16 : List Vm.File) (y19 : List Vm.Clash) (y22 : Int) (v17 v20 j23 j24 j25 : Value) (W26 : CW), W26.w = w ∧ Le [2, 3, 4] W11 W26 ∧ l = [v17, v20, vI y22, j23, j24, j25] ∧ Ow W26 2 [] [v17] y16 ∧ Ow W26 3 [] [v20] y19 ∧ Vm.spec_l6Of_l1 x0 x1 x2 z9 K27 m y16 y19 y22 = some r) (((z9.length : Int) - 0).toNat + 1) ⟨([] : List File), ([] : List Clash), 0, v1, v3, undef, undef, undef, W11, rfl, Le.refl _ _, rfl, ((o1.up l3 rfl).up l11 rfl), (o3.up l11 rfl), hm⟩ ?_
 rintro m28 _ _ σ ⟨y16, y19, y22, v17, v20, j23, j24, j25, W26, rfl, l26, rfl, o18, o21, hm⟩
 obtain _ | m28 := m28
 ·cases hm
 unfold Vm.spec_l6Of_l1 at hm
 have a29 := l26.s rfl
 refine Cw.seq (Cw.seq (Cw.region ?_))
 have s30 := s12.ul a29
 refine Lw.m (vI y22) rfl (Lw.m v0_11 rfl (Lw.ln z9 s30 rfl (Lw.lt rfl (Lw.nil (Cw.cond (b := decide ((y22 : Int) < ((z9.length : Int) : Int))) rfl (fun hc31 => ?_) (fun hc31 => ?_))))))
 ·replace hm := bt hm hc31
  refine Cw.skip ?_
  obtain ⟨K42, hK42, hm⟩ := jn_e hm
  refine Cw.join 27 61 [8, 9, 12, 13, 14] (fun l w => ∃ (y32 : List Vm.File) (y35 : List Vm.Clash) (v33 v36 j38 j39 j40 : Value) (W41 : CW), W41.w = w ∧ Le [2, 3, 4] W26 W41 ∧ l = [v33, v36, j38, j39, j40] ∧ Ow W41 2 [] [v33] y32 ∧ Ow W41 3 [] [v36] y35 ∧ K42 y32 y35 = some r) ?_ ?_
  ·rintro _ _ σ ⟨y32, y35, v33, v36, j38, j39, j40, W41, rfl, l41, rfl, o34, o37, hm⟩
   rw [hK42] at hm
   refine Cw.region (Lw.m (vI y22) rfl (Lw.add rfl (Lw.g (vI (w64 (y22 + 1))) rfl (Lw.nil (⟨?_, m28, Nat.lt_succ_self m28, ⟨y32, y35, w64 (y22 + 1), v33, v36, j38, j39, j40, W41, rfl, (l26.trans l41), rfl, o34, o37, hm⟩⟩)))))
   iterate 8 (refine .u ?_)
   refine Agree.ov0 rfl ?_
   iterate 10 (refine .u ?_)
   exact Agree.base
  ·refine Cw.block (Cw.seq (Cw.region (Lw.m v0_ rfl (Lw.m v1_ rfl (Lw.m v2_ rfl (Lw.m v0_11 rfl (Lw.m (vI y22) rfl ?_)))))))
   obtain ⟨u44, e45, hm⟩ := ob hm
   refine Lw.r rfl (R.ix (α := Str) s30 e45 rfl rfl rfl) (Lw.r rfl (R.ld rfl rfl (s30.at_ e45).str) ?_)
   obtain ⟨z49, e50, hm⟩ := ob hm
   refine Lw.t rfl (T.call rfl (p115 (K := [0])  (h0.ul (a13.trans a29)) (h1.ul (a13.trans a29)) (h2.ul (a13.trans a29)) e50)) ?_
   rintro _ _ ⟨W51, rfl, l51, ⟨v0_51, rfl, f51_0⟩⟩
   have s52 := f51_0.sub (M := [0]) rfl
   have a53 := a29.n l51
   refine Lw.m (.tuple [v0_51, vB z49.2.1, vI z49.2.2].toArray) rfl (Lw.r rfl (R.ext (vs := [v0_51, vB z49.2.1, vI z49.2.2]) (v := v0_51) rfl rfl) (Lw.r rfl (R.ext (vs := [v0_51, vB z49.2.1, vI z49.2.2]) (v := vB z49.2.1) rfl rfl) (Lw.r rfl (R.ext (vs := [v0_51, vB z49.2.1, vI z49.2.2]) (v := vI z49.2.2) rfl rfl) (Lw.g v0_51 rfl (Lw.g (vB z49.2.1) rfl (Lw.g (vI z49.2.2) rfl (Lw.nil ?_)))))))
   obtain ⟨K60, hK60, hm⟩ := jn_e hm
   refine Cw.join 39 49 [9] (fun l w => ∃ (y56 : List Vm.Clash) (v57 : Value) (W59 : CW), W59.w = w ∧ Le [3] W51 W59 ∧ l = [v57] ∧ Ow W59 3 [] [v57] y56 ∧ K60 y56 = some r) ?_ ?_
   ·rintro _ _ σ ⟨y56, v57, W59, rfl, l59, rfl, o58, hm⟩
    rw [hK60] at hm
    have a61 := l59.s rfl
    have o62 := (o18.up l51 rfl).up l59 rfl
    refine Cw.seq (Cw.region (Lw.m (vB z49.2.1) rfl (Lw.nil (Cw.cond (b := z49.2.1) rfl (fun hc63 => ?_) (fun hc63 => ?_)))))
    ·replace hm := bt hm hc63
     refine Cw.draw [2, 4] [(0, 0), (1, 0), (2, 0), (3, 0), (4, 1), (6, 0), (5, 2), (7, 2), (8, 0), (9, 2), (10, 2), (11, 0)] mixed (by kernel_rfl) fun W64 l64 => ?_
     have a65 := l64.o
     refine Mw.p rfl rfl (fun _ => R.mv (v := v17) rfl) (Mw.p rfl rfl (fun _ => R.mv (v := v0_11) rfl) (Mw.p rfl rfl (fun _ => R.mv (v := vI y22) rfl) ?_))
     obtain ⟨u68, e69, hm⟩ := ob hm
     have s70 := s12.ul ((a53.trans a61).trans a65)
     refine Mw.p rfl rfl (fun _ => R.ix (α := Str) s70 e69 rfl rfl rfl) (Mw.q rfl rfl (fun _ c => R.ld rfl rfl (cl_cell (s70.at_ e69).1 rfl (s70.at_ e69).str c)) (Mw.p rfl rfl (fun _ => R.mv (v := v0_51) rfl) (Mw.t rfl rfl (T.lit0 (α := Str) 4 []) ?_)))
     rintro v71 _ ⟨W71, rfl, l71, o71⟩
     have a72 := (a61.trans a65).n l71
     refine ⟨⟨_, rfl, (l71.sub (M := [2, 4]) rfl)⟩, ?_⟩
     obtain ⟨q75, e76, hm⟩ := ob hm
     refine Mw.t rfl rfl (T.appP (α := Str) o71 (s52.ul a72) rfl rfl e76) ?_
     rintro v77 _ ⟨W77, rfl, l77, o77⟩
     refine ⟨⟨_, rfl, ((l71.sub (M := [2, 4]) rfl).trans (l77.sub (M := [2, 4]) rfl))⟩, ?_⟩
     refine Mw.p rfl rfl (fun _ => R.bd (zs := [vS ([] : Str), .slice none 0 0]) (cs := [vS u68, v77]) [(0, vS u68), (1, v77)] rfl rfl rfl (bp_cons rfl rfl (bp_cons o77.oc rfl bp_nil))) (Mw.t rfl rfl (T.bs 5 [.agg [vS u68, v77].toArray] (cs := [vS u68, v77]) rfl rfl (bsA rfl)) ?_)
     rintro _ _ ⟨g82, W82, rfl, rfl, l82, b82⟩
     refine ⟨⟨_, rfl, ((l71.sub (M := [2, 4]) rfl).trans ((l77.sub (M := [2, 4]) rfl).trans (l82.sub (M := [2, 4]) rfl)))⟩, ?_⟩
     obtain ⟨q87, e88, hm⟩ := ob hm
     refine Mw.t rfl rfl (T.app1 (α := File) (J := [4]) (K' := []) ((((o62.up l64 rfl).up l71 rfl).up l77 rfl).up l82 rfl) b82 (File.own u68 q75 (o77.up l82 rfl).s) rfl rfl e88) ?_
     rintro v89 _ ⟨W89, rfl, l89, o89⟩
     refine ⟨⟨_, rfl, ((l71.sub (M := [2, 4]) rfl).trans ((l77.sub (M := [2, 4]) rfl).trans ((l82.sub (M := [2, 4]) rfl).trans (l89.sub (M := [2, 4]) rfl))))⟩, ?_⟩
     refine Mw.p rfl rfl (fun _ => R.as (v := v89) rfl) (Mw.nil (⟨?_, ⟨q87, y56, v89, v57, v0_51, vB z49.2.1, vI z49.2.2, W89, rfl, ((l51.sub rfl).trans ((l59.sub rfl).trans ((l64.sub rfl).trans ((l71.sub rfl).trans ((l77.sub rfl).trans ((l82.sub rfl).trans (l89.sub rfl))))))), rfl, o89, (((((o58.up l64 rfl).up l71 rfl).up l77 rfl).up l82 rfl).up l89 rfl), hm⟩⟩))
     iterate 14 (refine .u ?_)
     refine Agree.ov0 rfl ?_
     iterate 15 (refine .u ?_)
     exact Agree.refl _
    ·replace hm := bf hm hc63
     refine Cw.skip (⟨?_, ⟨y16, y56, v17, v57, v0_51, vB z49.2.1, vI z49.2.2, W59, rfl, ((l51.sub rfl).trans (l59.sub rfl)), rfl, o62, o58, hm⟩⟩)
     iterate 2 (refine .u ?_)
     refine Agree.ov0 rfl ?_
     iterate 15 (refine .u ?_)
     exact Agree.refl _
   ·refine Cw.seq (Cw.region (Lw.m (vI z49.2.2) rfl (Lw.gt rfl (Lw.nil (Cw.cond (b := decide ((0 : Int) < (z49.2.2 : Int))) rfl (fun hc93 => ?_) (fun hc93 => ?_))))))
    ·replace hm := bt hm hc93
     refine Cw.region (Lw.m v20 rfl (Lw.m v0_11 rfl (Lw.m (vI y22) rfl ?_)))
     obtain ⟨u94, e95, hm⟩ := ob hm
     refine Lw.r rfl (R.ix (α := Str) (s12.ul a53) e95 rfl rfl rfl) (Lw.r rfl (R.ld rfl rfl ((s12.ul a53).at_ e95).str) (Lw.m (vI z49.2.2) rfl (Lw.r rfl (R.bd (zs := [vS ([] : Str), vI 0]) (cs := [vS u94, vI z49.2.2]) [(0, vS u94), (1, vI z49.2.2)] rfl rfl rfl (bp_cons rfl rfl (bp_cons rfl rfl bp_nil))) (Lw.t rfl (T.bs 6 [.agg [vS u94, vI z49.2.2].toArray] (cs := [vS u94, vI z49.2.2]) rfl rfl (bsA rfl)) ?_))))
     rintro _ _ ⟨g97, W97, rfl, rfl, l97, b97⟩
     obtain ⟨q101, e102, hm⟩ := ob hm
     refine Lw.t rfl (T.app1S (α := Clash) (K' := []) ((o21.up l51 rfl).up l97 rfl) b97 (Clash.rd (K := []) u94 z49.2.2) rfl rfl e102) ?_
     rintro v103 _ ⟨W103, rfl, l103, o103⟩
     refine Lw.g v103 rfl (Lw.nil (⟨?_, ⟨q101, v103, W103, rfl, ((l97.sub rfl).trans l103), rfl, o103, hm⟩⟩))
     iterate 12 (refine .u ?_)
     exact Agree.refl _
    ·replace hm := bf hm hc93
     refine Cw.skip (⟨?_, ⟨y19, v20, W51, rfl, Le.refl _ _, rfl, (o21.up l51 rfl), hm⟩⟩)
     iterate 2 (refine .u ?_)
     exact Agree.refl _
 ·replace hm := bf hm hc31
  refine Cw.exit ?_
  rw [hK27] at hm
  refine Cw.seq (Cw.region (Lw.m v17 rfl (Lw.m v20 rfl (Lw.g v17 rfl (Lw.g v20 rfl (Lw.nil ?_))))))
  obtain ⟨W107, ew107, l107, o107⟩ := o18.dyeO 31
  have a108 := (a13.trans a29).t l107 rfl
  obtain ⟨W110, ew110, l110, o110⟩ := (o21.up l107 rfl).dyeO 32
  have a111 := a108.t l110 rfl
  cases hm
  rw [← ew110.trans (ew107)]
  exact Cw.ret (ret2 rfl rfl (Res.mk a111 ⟨v17, v20, rfl, (o107.up l110 rfl).s, o110.s⟩))

theorem p112 {W : CW} {K : List Nat} {x0 : List Vm.File} {v0_ : Value} {x1 : List Vm.File} {v1_ : Value} {x2 : List Vm.File} {v2_ : Value} {k0 : Nat} {k1 : Nat} {r : (List Vm.File) × (List Vm.Clash)} (h0 : Rd W K [v0_] x0) (h1 : Rd W K [v1_] x1) (h2 : Rd W K [v2_] x2) (hm : Vm.spec_l6Of x0 x1 x2 = some r) : CallR Tryz.prog 112 [v0_, v1_, v2_].toArray W.w (Res W [] fun W' v => ∃ (u0 : Value) (u1 : Value), v = .tuple [u0, u1].toArray ∧ Ow W' k0 [] [u0] r.1 ∧ Ow W' k1 [] [u1] r.2) :=
 CallR.adJ (J := []) (fun c => bif Nat.beq c 0 then 0 else bif Nat.beq c 31 then k0 else bif Nat.beq c 32 then k1 else 0) (c112 (V := W.view K []) (h0.view _) (h1.view _) (h2.view _) hm) fun _ _ ⟨u0, u1, e, f0, f1⟩ => ⟨u0, u1, e, f0.one1.backN rfl, f1.one1.backN rfl⟩

theorem c108 {V : CW} {x0 : List Vm.File} {v0_ : Value} {x1 : List Vm.File} {v1_ : Value} {x2 : List Vm.File} {v2_ : Value} {r : (List Vm.File) × (List Vm.Clash)} (h0 : Rd V [0] [v0_] x0) (h1 : Rd V [0] [v1_] x1) (h2 : Rd V [0] [v2_] x2) (hm : Vm.spec_l6Join x0 x1 x2 = some r) : CallR Tryz.prog 108 [v0_, v1_, v2_].toArray V.w (Res V LL fun Wf v => ∃ (u0 : Value) (u1 : Value), v = .tuple [u0, u1].toArray ∧ OwS Wf [31] [] [u0] r.1 ∧ OwS Wf [32] [] [u1] r.2) := by
 unfold Vm.spec_l6Join at hm
 obtain ⟨W0, hW0⟩ : ∃ W, W = V := ⟨V, rfl⟩
 subst hW0
 refine CallR.of Tryz.func108 rfl rfl rfl rfl (Cw.seq (Cw.region (Lw.g (.slice none 0 0) rfl (Lw.g (.slice none 0 0) rfl (Lw.nil (Cw.seq (Cw.region (Lw.m v0_ rfl (Lw.m v1_ rfl (Lw.m v2_ rfl ?_))))))))))
 obtain ⟨z1, e2, hm⟩ := ob hm
 refine Lw.t rfl (T.call rfl (p112 (K := [0]) (k0 := 2) (k1 := 3) h0 h1 h2 e2)) ?_
 rintro _ _ ⟨W3, rfl, l3, ⟨v0_3, v1_3, rfl, f3_0, f3_1⟩⟩
 have a4 := l3.o
 refine Lw.m (.tuple [v0_3, v1_3].toArray) rfl (Lw.r rfl (R.ext (vs := [v0_3, v1_3]) (v := v0_3) rfl rfl) (Lw.r rfl (R.ext (vs := [v0_3, v1_3]) (v := v1_3) rfl rfl) (Lw.g v0_3 rfl (Lw.g v1_3 rfl (Lw.nil (Cw.seq ?_))))))
 obtain ⟨K7, hK7, hm⟩ := jn_e hm
 refine Cw.join 17 24 [24] (fun l w => ∃ (y5 : Bool) (W6 : CW), W6.w = w ∧ Le [] W3 W6 ∧ l = [vB y5] ∧ K7 y5 = some r) ?_ ?_
 ·rintro _ _ σ ⟨y5, W6, rfl, l6, rfl, hm⟩
  rw [hK7] at hm
  have a8 := a4.n l6
  refine Cw.cond (b := y5) rfl (fun hc11 => ?_) (fun hc11 => ?_)
  ·replace hm := bt hm hc11
   refine Cw.seq (Cw.region (Lw.m v0_ rfl ?_))
   obtain ⟨z13, e14, hm⟩ := ob hm
   refine Lw.t rfl (T.call rfl (p32 (K := [0]) (k0 := 4) (h0.ul a8) e14)) ?_
   rintro v0_15 _ ⟨W15, rfl, l15, ⟨_, rfl, f15_0⟩⟩
   have a16 := a8.n l15
   refine Lw.r rfl (R.bd (zs := [vS ([] : Str), vI 0]) (cs := [vS ([] : Str), vI 4]) [(1, vI 4)] rfl rfl rfl (bp_cons rfl rfl bp_nil)) (Lw.t rfl (T.bsO (α := Clash) (J := []) (xs := [Vm.Clash.mk ([] : Str) 4]) 5 [.agg [vS ([] : Str), vI 4].toArray] (bsL [[vS ([] : Str), vI 4]] (mapa rfl mapn) (OwL.cons (x := (Vm.Clash.mk ([] : Str) 4)) (OwS.atm (K := []) (Clash.rd (K := []) ([] : Str) 4)) OwL.nil)) rfl) ?_)
   rintro v19 _ ⟨W19, rfl, l19, o19⟩
   have a20 := a16.n l19
   refine Lw.g v0_15 rfl (Lw.g v19 rfl (Lw.nil ?_))
   obtain ⟨W24, ew24, l24, o24⟩ := (f15_0.up l19 rfl).dyeO 31
   have a25 := a20.t l24 rfl
   obtain ⟨W29, ew29, l29, o29⟩ := (o19.up l24 rfl).dyeO 32
   have a30 := a25.t l29 rfl
   cases hm
   rw [← ew29.trans (ew24)]
   exact Cw.ret (ret2 rfl rfl (Res.mk a30 ⟨v0_15, v19, rfl, (o24.up l29 rfl).s, o29.s⟩))
  ·replace hm := bf hm hc11
   refine Cw.skip (Cw.seq (Cw.region (Lw.m v0_3 rfl (Lw.m v1_3 rfl (Lw.g v0_3 rfl (Lw.g v1_3 rfl (Lw.nil ?_)))))))
   obtain ⟨W34, ew34, l34, o34⟩ := (f3_0.up l6 rfl).dyeO 31
   have a35 := a8.t l34 rfl
   obtain ⟨W37, ew37, l37, o37⟩ := ((f3_1.up l6 rfl).up l34 rfl).dyeO 32
   have a38 := a35.t l37 rfl
   cases hm
   rw [← ew37.trans (ew34)]
   exact Cw.ret (ret2 rfl rfl (Res.mk a38 ⟨v0_3, v1_3, rfl, (o34.up l37 rfl).s, o37.s⟩))
 ·refine Cw.region (Lw.m v1_3 rfl (Lw.ln z1.2 f3_1.rd rfl (Lw.eq rfl (Lw.m (vB (((z1.2.length : Int) : Int) == (0 : Int))) rfl (bsplit (((z1.2.length : Int) : Int) == (0 : Int)) (fun hc40 => ?_) (fun hc40 => ?_))))))
  ·replace hm := bt hm hc40
   refine Lw.wa hc40 rfl (Lw.m v0_3 rfl (Lw.wa hc40 rfl ?_))
   obtain ⟨z41, e42, hm⟩ := ob hm
   refine Lw.t rfl (T.call rfl (p52 (K := [2])  f3_0.rd e42)) ?_
   rintro _ _ ⟨W43, rfl, l43, rfl⟩
   refine Lw.wa hc40 rfl (Lw.r rfl (R.not rfl) (Lw.p hc40 (vB (!z41)) rfl (Lw.nil (⟨?_, ⟨(!z41), W43, rfl, l43, rfl, hm⟩⟩))))
   iterate 8 (refine .u ?_)
   exact Agree.refl _
  ·replace hm := bf hm hc40
   refine Lw.ps hc40 rfl (Lw.ps hc40 rfl (Lw.ps hc40 rfl (Lw.p hc40 (vB false) rfl (Lw.nil (⟨?_, ⟨false, W3, rfl, Le.refl _ _, rfl, hm⟩⟩)))))
   iterate 8 (refine .u ?_)
   exact Agree.refl _

theorem p108 {W : CW} {K : List Nat} {x0 : List Vm.File} {v0_ : Value} {x1 : List Vm.File} {v1_ : Value} {x2 : List Vm.File} {v2_ : Value} {k0 : Nat} {k1 : Nat} {r : (List Vm.File) × (List Vm.Clash)} (h0 : Rd W K [v0_] x0) (h1 : Rd W K [v1_] x1) (h2 : Rd W K [v2_] x2) (hm : Vm.spec_l6Join x0 x1 x2 = some r) : CallR Tryz.prog 108 [v0_, v1_, v2_].toArray W.w (Res W [] fun W' v => ∃ (u0 : Value) (u1 : Value), v = .tuple [u0, u1].toArray ∧ Ow W' k0 [] [u0] r.1 ∧ Ow W' k1 [] [u1] r.2) :=
 CallR.adJ (J := []) (fun c => bif Nat.beq c 0 then 0 else bif Nat.beq c 31 then k0 else bif Nat.beq c 32 then k1 else 0) (c108 (V := W.view K []) (h0.view _) (h1.view _) (h2.view _) hm) fun _ _ ⟨u0, u1, e, f0, f1⟩ => ⟨u0, u1, e, f0.one1.backN rfl, f1.one1.backN rfl⟩

end Go.Sx
