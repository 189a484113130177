/- Walks: each function answers as its model, printed by a program of ours. Conditions: the arguments read as they are given. -/
import Derived.Test.YtmjjhnahdmlmaaaGreatDoorXTs
import Derived.Test.YtmjjhnahdmlmaaaGreatDoorXMd
import Derived.Test.YtmjjhnahdmlmaaaGreatDoorXW0
import Derived.Test.YtmjjhnahdmlmaaaGreatDoorXW11
import Derived.Test.YtmjjhnahdmlmaaaGreatDoorXW12
import Derived.Test.YtmjjhnahdmlmaaaGreatDoorXW2
import Derived.Test.YtmjjhnahdmlmaaaGreatDoorXW4
import Derived.Test.YtmjjhnahdmlmaaaGreatDoorXW9
namespace Go.Sx
open Go Go.Proofs Go.Vm Rp
set_option linter.unusedVariables false
set_option linter.unusedSimpArgs false

theorem c22 {V : CW} {x0 : List Byte} {v0_ : Value} {r : Vm.Repo × Int} (h0 : Rd V [0] [v0_] x0) (hm : Vm.spec_DrawAncAll x0 = some r) : CallR Tryz.prog 22 [v0_].toArray V.w (Res V LL fun Wf v => ∃ (u0_0 : Value) (u0_1 : Value), v = .tuple [.agg [u0_0, u0_1].toArray, vI r.2].toArray ∧ OwS Wf [31] [] [u0_0] r.1.Commits ∧ OwS Wf [32] [] [u0_1] r.1.Heads) := by
 unfold Vm.spec_DrawAncAll at hm
 obtain ⟨W0, hW0⟩ : ∃ W, W = V := ⟨V, rfl⟩
 subst hW0
 refine CallR.of Tryz.func22 rfl rfl rfl rfl (Cw.seq (Cw.region (Lw.t rfl (T.alloc 2 (cs := [.slice none 0 0, .slice none 0 0]) rfl) ?_)))
 rintro _ _ ⟨g1, W1, rfl, rfl, l1, b1⟩
 have a2 := l1.o
 refine Lw.g (vI 0) rfl (Lw.nil (Cw.seq (Cw.region (Lw.m v0_ rfl ?_))))
 obtain ⟨z4, e5, hm⟩ := ob hm
 refine Lw.t rfl (T.call rfl (p7 (K := [0]) (k0 := 3) (k1 := 4) (h0.ul a2) e5)) ?_
 rintro _ _ ⟨W6, rfl, l6, ⟨v0_0_6, v0_1_6, rfl, f6_0, f6_1⟩⟩
 have a7 := a2.n l6
 refine Lw.r rfl (R.ext (vs := [.agg [v0_0_6, v0_1_6].toArray, vI z4.2]) (v := .agg [v0_0_6, v0_1_6].toArray) rfl rfl) (Lw.r rfl (R.ext (vs := [.agg [v0_0_6, v0_1_6].toArray, vI z4.2]) (v := vI z4.2) rfl rfl) (Lw.u (T.sta (vs := [v0_0_6, v0_1_6]) (b1.up l6 rfl) rfl rfl (oc_cons f6_0.oc (oc_cons f6_1.oc oc_nil)) rfl rfl) ?_))
 rintro _ _ ⟨W9, rfl, l9, b9⟩
 have a10 := a7.t l9 rfl
 refine Lw.g (vI z4.2) rfl (Lw.nil ?_)
 obtain ⟨W13, ew13, l13, o13⟩ := (f6_0.up l9 rfl).dyeO 31
 have a14 := a10.t l13 rfl
 obtain ⟨W17, ew17, l17, o17⟩ := ((f6_1.up l9 rfl).up l13 rfl).dyeO 32
 have a18 := a14.t l17 rfl
 cases hm
 rw [← ew17.trans (ew13)]
 exact Cw.ret (retA2 rfl ((b9.up l13 rfl).up l17 rfl) rfl (Res.mk a18 ⟨v0_0_6, v0_1_6, rfl, (o13.up l17 rfl).s, o17.s⟩))

theorem p22 {W : CW} {K : List Nat} {x0 : List Byte} {v0_ : Value} {k0 : Nat} {k1 : Nat} {r : Vm.Repo × Int} (h0 : Rd W K [v0_] x0) (hm : Vm.spec_DrawAncAll x0 = some r) : CallR Tryz.prog 22 [v0_].toArray W.w (Res W [] fun W' v => ∃ (u0_0 : Value) (u0_1 : Value), v = .tuple [.agg [u0_0, u0_1].toArray, vI r.2].toArray ∧ Ow W' k0 [] [u0_0] r.1.Commits ∧ Ow W' k1 [] [u0_1] r.1.Heads) :=
 CallR.adJ (J := []) (fun c => bif Nat.beq c 0 then 0 else bif Nat.beq c 31 then k0 else bif Nat.beq c 32 then k1 else 0) (c22 (V := W.view K []) (h0.view _) hm) fun _ _ ⟨u0_0, u0_1, e, f0, f1⟩ => ⟨u0_0, u0_1, e, f0.one1.backN rfl, f1.one1.backN rfl⟩

theorem c23 {V : CW} {x0 : Vm.Repo} {v0_0_ : Value} {v0_1_ : Value} {x1 : Int} {r : (List Int)} (h0 : Rd V [0] [v0_0_, v0_1_] x0) (hm : Vm.spec_AncAll x0 x1 = some r) : CallR Tryz.prog 23 [.agg [v0_0_, v0_1_].toArray, vI x1].toArray V.w (Res V LL fun Wf v => ∃ (u0 : Value), v = u0 ∧ OwS Wf LL [] [u0] r) := by
 unfold Vm.spec_AncAll at hm
 obtain ⟨w0_0, w0_1, he0, h0_0, h0_1⟩ := Repo.split h0
 simp only [List.cons.injEq, and_true, true_and] at he0
 obtain ⟨rfl, rfl⟩ := he0
 obtain ⟨W0, hW0⟩ : ∃ W, W = V := ⟨V, rfl⟩
 subst hW0
 refine CallR.of Tryz.func23 rfl rfl rfl rfl (Cw.seq (Cw.region (Lw.t rfl (T.box 2 (v := .agg [v0_0_, v0_1_].toArray) (cs := [v0_0_, v0_1_]) rfl rfl) ?_)))
 rintro _ _ ⟨g1, W1, rfl, rfl, l1, b1⟩
 have a2 := l1.o
 refine Lw.g (.slice none 0 0) rfl (Lw.nil (Cw.seq ?_))
 obtain ⟨K5, hK5, hm⟩ := jn_e hm
 refine Cw.join 5 16 [16] (fun l w => ∃ (y3 : Bool) (W4 : CW), W4.w = w ∧ Le [] W1 W4 ∧ l = [vB y3] ∧ K5 y3 = some r) ?_ ?_
 ·rintro _ _ σ ⟨y3, W4, rfl, l4, rfl, hm⟩
  rw [hK5] at hm
  have a6 := a2.n l4
  refine Cw.cond (b := y3) rfl (fun hc8 => ?_) (fun hc8 => ?_)
  ·replace hm := bt hm hc8
   refine Cw.seq (Cw.region (Lw.g (.slice none 0 0) rfl (Lw.nil ?_)))
   cases hm
   exact Cw.ret (ret1 rfl (Res.mk a6 ⟨.slice none 0 0, rfl, (owsN []).sub rfl rfl⟩))
  ·replace hm := bf hm hc8
   refine Cw.skip (Cw.seq (Cw.region (Lw.r rfl (R.lda (cs := [v0_0_, v0_1_]) (b1.up l4 rfl).cells rfl rfl) (Lw.m (vI x1) rfl ?_))))
   obtain ⟨z11, e12, hm⟩ := ob hm
   refine Lw.t rfl (T.call rfl (p40 (K := [0]) (k0 := 3) (Repo.rd (K := [0]) x0.Commits x0.Heads (h0_0.ul a6) (h0_1.ul a6)) e12)) ?_
   rintro v0_13 _ ⟨W13, rfl, l13, ⟨_, rfl, f13_0⟩⟩
   have a14 := a6.n l13
   refine Lw.g v0_13 rfl (Lw.nil ?_)
   cases hm
   exact Cw.ret (ret1 rfl (Res.mk a14 ⟨v0_13, rfl, f13_0.s.sub rfl rfl⟩))
 ·refine Cw.region (Lw.r rfl (R.lda (cs := [v0_0_, v0_1_]) b1.cells rfl rfl) ?_)
  obtain ⟨z18, e19, hm⟩ := ob hm
  refine Lw.t rfl (T.call rfl (p30 (K := [0])  (Repo.rd (K := [0]) x0.Commits x0.Heads (h0_0.ul a2) (h0_1.ul a2)) e19)) ?_
  rintro _ _ ⟨W20, rfl, l20, rfl⟩
  have a21 := a2.n l20
  refine Lw.r rfl (R.not rfl) (Lw.m (vB (!z18)) rfl (bsplit (!z18) (fun hc23 => ?_) (fun hc23 => ?_)))
  ·replace hm := bt hm hc23
   refine Lw.ps hc23 rfl (Lw.ps hc23 rfl (Lw.ps hc23 rfl (Lw.ps hc23 rfl (Lw.ps hc23 rfl (Lw.ps hc23 rfl (Lw.ps hc23 rfl (Lw.p hc23 (vB true) rfl (Lw.nil (⟨?_, ⟨true, W20, rfl, l20, rfl, hm⟩⟩)))))))))
   iterate 12 (refine .u ?_)
   exact Agree.refl _
  ·replace hm := bf hm hc23
   refine Lw.wa hc23 rfl (Lw.m (vI x1) rfl (Lw.wa hc23 rfl (Lw.fa rfl (Lw.wa hc23 rfl (Lw.r rfl (R.ld (v := v0_0_) rfl rfl ((b1.up l20 rfl).cell rfl)) (Lw.wa hc23 rfl (Lw.ln x0.Commits (h0_0.ul a21) rfl (Lw.wa hc23 rfl (Lw.sub rfl (Lw.wa hc23 rfl ?_))))))))))
   obtain ⟨z25, e26, hm⟩ := ob hm
   refine Lw.t rfl (T.call rfl (p31 (K := [0])   e26)) ?_
   rintro _ _ ⟨W27, rfl, l27, rfl⟩
   refine Lw.wa hc23 rfl (Lw.r rfl (R.not rfl) (Lw.p hc23 (vB (!z25)) rfl (Lw.nil (⟨?_, ⟨(!z25), W27, rfl, (l20.trans l27), rfl, hm⟩⟩))))
   iterate 12 (refine .u ?_)
   exact Agree.refl _

theorem p23 {W : CW} {K : List Nat} {x0 : Vm.Repo} {v0_0_ : Value} {v0_1_ : Value} {x1 : Int} {k0 : Nat} {r : (List Int)} (h0 : Rd W K [v0_0_, v0_1_] x0) (hm : Vm.spec_AncAll x0 x1 = some r) : CallR Tryz.prog 23 [.agg [v0_0_, v0_1_].toArray, vI x1].toArray W.w (Res W [] fun W' v => ∃ (u0 : Value), v = u0 ∧ Ow W' k0 [] [u0] r) :=
 (c23 (V := W.view K []) (h0.view _) hm).ad (fk k0) fun _ _ ⟨u0, e, f0⟩ => ⟨u0, e, f0.back (fk_LL _)⟩

theorem c6 {V : CW} {x0 : List Byte} {v0_ : Value} {r : Bool} (h0 : Rd V [0] [v0_] x0) (h99 : Gl 0 V [0]) (hm : Vm.laws_FnAncAll x0 = some r) : CallR Tryz.prog 6 [v0_].toArray V.w (Res V LL fun Wf v => v = vB r) := by
 unfold Vm.laws_FnAncAll at hm
 obtain ⟨W0, hW0⟩ : ∃ W, W = V := ⟨V, rfl⟩
 subst hW0
 refine CallR.of Tryz.func6 rfl rfl rfl rfl (Cw.seq (Cw.region (Lw.g (vB false) rfl (Lw.nil (Cw.seq (Cw.seq (Cw.region (Lw.m v0_ rfl (Lw.ln x0 h0 rfl (Lw.gt rfl (Lw.nil (Cw.cond (b := decide ((1048576 : Int) < ((x0.length : Int) : Int))) rfl (fun hc1 => ?_) (fun hc1 => ?_)))))))))))))
 ·replace hm := bt hm hc1
  refine Cw.seq (Cw.region (Lw.g (vB true) rfl (Lw.nil ?_)))
  cases hm
  exact Cw.ret (ret1 rfl (Res.mk (Le.refl _ _) rfl))
 ·replace hm := bf hm hc1
  refine Cw.skip (Cw.seq (Cw.region (Lw.m v0_ rfl ?_)))
  obtain ⟨z2, e3, hm⟩ := ob hm
  refine Lw.t rfl (T.call rfl (p22 (K := [0]) (k0 := 2) (k1 := 3) h0 e3)) ?_
  rintro _ _ ⟨W4, rfl, l4, ⟨v0_0_4, v0_1_4, rfl, f4_0, f4_1⟩⟩
  have a5 := l4.o
  refine Lw.m (.tuple [.agg [v0_0_4, v0_1_4].toArray, vI z2.2].toArray) rfl (Lw.r rfl (R.ext (vs := [.agg [v0_0_4, v0_1_4].toArray, vI z2.2]) (v := .agg [v0_0_4, v0_1_4].toArray) rfl rfl) (Lw.r rfl (R.ext (vs := [.agg [v0_0_4, v0_1_4].toArray, vI z2.2]) (v := vI z2.2) rfl rfl) (Lw.t rfl (T.alloc 4 (cs := [.slice none 0 0, .slice none 0 0]) rfl) ?_)))
  rintro _ _ ⟨g6, W6, rfl, rfl, l6, b6⟩
  have a7 := a5.n l6
  refine Lw.u (T.sta (vs := [v0_0_4, v0_1_4]) b6 rfl rfl (oc_cons (f4_0.up l6 rfl).oc (oc_cons (f4_1.up l6 rfl).oc oc_nil)) rfl rfl) ?_
  rintro _ _ ⟨W10, rfl, l10, b10⟩
  have a11 := a7.t l10 rfl
  have o12 := (f4_0.up l6 rfl).up l10 rfl
  have o13 := (f4_1.up l6 rfl).up l10 rfl
  refine Lw.g (vI z2.2) rfl (Lw.nil (Cw.seq (Cw.region (Lw.r rfl (R.lda (cs := [v0_0_4, v0_1_4]) b10.cells rfl rfl) (Lw.m (vI z2.2) rfl ?_)))))
  obtain ⟨z15, e16, hm⟩ := ob hm
  refine Lw.t rfl (T.call rfl (p17 (K := [0, 2, 3]) (k0 := 5) (x0 := (Vm.Repo.mk z2.1.Commits z2.1.Heads)) ((Repo.rd (K := [2, 3]) z2.1.Commits z2.1.Heads (o12.rd.sub (M := [2, 3]) rfl) (o13.rd.sub (M := [2, 3]) rfl)).sub (M := [0, 2, 3]) rfl) ((h99.ul a11).sub (M := [0, 2, 3]) rfl) e16)) ?_
  rintro v0_17 _ ⟨W17, rfl, l17, ⟨_, rfl, f17_0⟩⟩
  have a18 := a11.n l17
  refine Lw.g v0_17 rfl (Lw.nil (Cw.seq ?_))
  obtain ⟨K24, hK24, hm⟩ := jn_e hm
  refine Cw.join 21 31 [31] (fun l w => ∃ (y22 : Bool) (W23 : CW), W23.w = w ∧ Le [] W17 W23 ∧ l = [vB y22] ∧ K24 y22 = some r) ?_ ?_
  ·rintro _ _ σ ⟨y22, W23, rfl, l23, rfl, hm⟩
   rw [hK24] at hm
   have a25 := a18.n l23
   have o26 := (o12.up l17 rfl).up l23 rfl
   have o27 := (o13.up l17 rfl).up l23 rfl
   have b29 := (b10.up l17 rfl).up l23 rfl
   refine Cw.cond (b := y22) rfl (fun hc30 => ?_) (fun hc30 => ?_)
   ·replace hm := bt hm hc30
    refine Cw.seq (Cw.region (Lw.m v0_17 rfl (Lw.r rfl (R.lda (cs := [v0_0_4, v0_1_4]) b29.cells rfl rfl) (Lw.m (vI z2.2) rfl ?_))))
    obtain ⟨z31, e32, hm⟩ := ob hm
    refine Lw.t rfl (T.call rfl (p23 (K := [2, 3]) (k0 := 6) (x0 := (Vm.Repo.mk z2.1.Commits z2.1.Heads)) (Repo.rd (K := [2, 3]) z2.1.Commits z2.1.Heads (o26.rd.sub (M := [2, 3]) rfl) (o27.rd.sub (M := [2, 3]) rfl)) e32)) ?_
    rintro v0_33 _ ⟨W33, rfl, l33, ⟨_, rfl, f33_0⟩⟩
    have a34 := a25.n l33
    obtain ⟨z39, e40, hm⟩ := ob hm
    refine Lw.t rfl (T.call rfl (p20 (K := [5, 6])  (((f17_0.up l23 rfl).up l33 rfl).rd.sub (M := [5, 6]) rfl) (f33_0.rd.sub (M := [5, 6]) rfl) e40)) ?_
    rintro _ _ ⟨W41, rfl, l41, rfl⟩
    have a42 := a34.n l41
    refine Lw.g (vB z39) rfl (Lw.nil ?_)
    cases hm
    exact Cw.ret (ret1 rfl (Res.mk a42 rfl))
   ·replace hm := bf hm hc30
    refine Cw.skip (Cw.seq (Cw.seq (Cw.region (Lw.g (vI 1) rfl (Lw.nil (Cw.block ?_))))))
    obtain ⟨K51, hK51, hm⟩ := jn_e hm
    refine Cw.loop 37 52 [2, 6] (fun m l w => ∃ (y48 : Bool) (y49 : Int) (W50 : CW), W50.w = w ∧ Le [] W23 W50 ∧ l = [vB y48, vI y49] ∧ Vm.laws_FnAncAll_l1 z15 K51 m y48 y49 = some r) (((z15.length : Int) - 1).toNat + 1) ⟨false, 1, W23, rfl, Le.refl _ _, rfl, hm⟩ ?_
    rintro m52 _ _ σ ⟨y48, y49, W50, rfl, l50, rfl, hm⟩
    obtain _ | m52 := m52
    ·cases hm
    unfold Vm.laws_FnAncAll_l1 at hm
    have a53 := a25.n l50
    have o56 := (f17_0.up l23 rfl).up l50 rfl
    refine Cw.seq (Cw.seq (Cw.region (Lw.m (vI y49) rfl (Lw.m v0_17 rfl (Lw.ln z15 o56.rd rfl (Lw.lt rfl (Lw.nil (Cw.cond (b := decide ((y49 : Int) < ((z15.length : Int) : Int))) rfl (fun hc58 => ?_) (fun hc58 => ?_)))))))))
    ·replace hm := bt hm hc58
     refine Cw.skip (Cw.seq (Cw.block (Cw.seq (Cw.draw [] [(0, 0), (1, 0), (2, 0), (3, 1), (4, 0), (5, 0), (6, 0), (7, 0), (8, 1), (9, 0)] mixed (by kernel_rfl) fun W59 l59 => ?_))))
     have a60 := a53.n l59
     have o63 := o56.up l59 rfl
     refine Mw.p rfl rfl (fun _ => R.mv (v := v0_17) rfl) (Mw.p rfl rfl (fun _ => R.mv (v := vI y49) rfl) ?_)
     obtain ⟨u65, e66, hm⟩ := ob hm
     refine Mw.p rfl rfl (fun _ => R.ix (α := Int) o63.rd e66 rfl rfl rfl) (Mw.q rfl rfl (fun _ c => R.ld rfl rfl (cl_cell (o63.rd.at_ e66).1 rfl (o63.rd.at_ e66).int c)) (Mw.p rfl rfl (fun _ => R.mv (v := v0_17) rfl) (Mw.p rfl rfl (fun _ => R.mv (v := vI y49) rfl) (Mw.p rfl rfl (fun _ => R.sub rfl rfl) ?_))))
     obtain ⟨u67, e68, hm⟩ := ob hm
     refine Mw.p rfl rfl (fun _ => R.ix (α := Int) o63.rd e68 rfl rfl rfl) (Mw.q rfl rfl (fun _ c => R.ld rfl rfl (cl_cell (o63.rd.at_ e68).1 rfl (o63.rd.at_ e68).int c)) (Mw.p rfl rfl (fun _ => R.le rfl rfl) (Mw.nil (Cw.cond (b := decide ((u65 : Int) ≤ (u67 : Int))) rfl (fun hc69 => ?_) (fun hc69 => ?_)))))
     ·replace hm := bt hm hc69
      refine Cw.seq (Cw.region (Lw.g (vB false) rfl (Lw.nil ?_)))
      cases hm
      exact Cw.ret (ret1 rfl (Res.mk a60 rfl))
     ·replace hm := bf hm hc69
      refine Cw.skip (Cw.region (Lw.m (vI y49) rfl (Lw.add rfl (Lw.g (vI (w64 (y49 + 1))) rfl (Lw.nil (⟨?_, m52, Nat.lt_succ_self m52, ⟨y48, w64 (y49 + 1), W59, rfl, (l50.trans l59), rfl, hm⟩⟩))))))
      iterate 19 (refine .u ?_)
      exact Agree.base
    ·replace hm := bf hm hc58
     refine Cw.exit ?_
     rw [hK51] at hm
     refine Cw.seq (Cw.seq (Cw.region (Lw.g (vI 0) rfl (Lw.nil (Cw.block ?_)))))
     obtain ⟨K75, hK75, hm⟩ := jn_e hm
     refine Cw.loop 53 94 [2, 7, 8, 9] (fun m l w => ∃ (y70 : Bool) (y71 : Int) (j72 j73 : Value) (W74 : CW), W74.w = w ∧ Le [] W50 W74 ∧ l = [vB y70, vI y71, j72, j73] ∧ Vm.laws_FnAncAll_l2 z2 z15 K75 m y70 y71 = some r) (((z2.1.Commits.length : Int) - 0).toNat + 1) ⟨y48, 0, undef, undef, W50, rfl, Le.refl _ _, rfl, hm⟩ ?_
     rintro m76 _ _ σ ⟨y70, y71, j72, j73, W74, rfl, l74, rfl, hm⟩
     obtain _ | m76 := m76
     ·cases hm
     unfold Vm.laws_FnAncAll_l2 at hm
     have a77 := a53.n l74
     have o78 := (o26.up l50 rfl).up l74 rfl
     have o80 := o56.up l74 rfl
     have b81 := (b29.up l50 rfl).up l74 rfl
     refine Cw.seq (Cw.seq (Cw.region (Lw.m (vI y71) rfl (Lw.fa rfl (Lw.r rfl (R.ld (v := v0_0_4) rfl rfl (b81.cell rfl)) (Lw.ln z2.1.Commits o78.rd rfl (Lw.lt rfl (Lw.nil (Cw.cond (b := decide ((y71 : Int) < ((z2.1.Commits.length : Int) : Int))) rfl (fun hc82 => ?_) (fun hc82 => ?_))))))))))
     ·replace hm := bt hm hc82
      refine Cw.skip (Cw.seq (Cw.block (Cw.seq (Cw.region (Lw.m (vI y71) rfl (Lw.m (vI z2.2) rfl (Lw.eq rfl (Lw.g (vB ((y71 : Int) == (z2.2 : Int))) rfl (Lw.nil (Cw.seq (Cw.seq (Cw.region (Lw.g (vI 0) rfl (Lw.nil (Cw.block ?_)))))))))))))))
      obtain ⟨K86, hK86, hm⟩ := jn_e hm
      refine Cw.loop 63 89 [8, 9] (fun m l w => ∃ (y83 : Bool) (y84 : Int) (W85 : CW), W85.w = w ∧ Le [] W74 W85 ∧ l = [vB y83, vI y84] ∧ Vm.laws_FnAncAll_l3 z2 y71 K86 m y83 y84 = some r) (4) ⟨((y71 : Int) == (z2.2 : Int)), 0, W74, rfl, Le.refl _ _, rfl, hm⟩ ?_
      rintro m87 _ _ σ ⟨y83, y84, W85, rfl, l85, rfl, hm⟩
      obtain _ | m87 := m87
      ·cases hm
      unfold Vm.laws_FnAncAll_l3 at hm
      have a88 := a77.n l85
      have o89 := o78.up l85 rfl
      refine Cw.seq (Cw.seq (Cw.region (Lw.m (vI y84) rfl (Lw.fa rfl (Lw.r rfl (R.ld (v := v0_0_4) rfl rfl ((b81.up l85 rfl).cell rfl)) (Lw.m (vI z2.2) rfl ?_))))))
      obtain ⟨u93, e94, hm⟩ := ob hm
      refine Lw.r rfl (R.ix (α := Commit) o89.rd e94 rfl rfl rfl) (Lw.fa rfl ?_)
      obtain ⟨v95, c96, r97⟩ := (Commit.at0 (o89.rd.at_ e94)).cell rfl
      refine Lw.r rfl (R.ld rfl rfl c96) (Lw.ln u93.Parents r97 rfl (Lw.lt rfl (Lw.nil (Cw.cond (b := decide ((y84 : Int) < ((u93.Parents.length : Int) : Int))) rfl (fun hc98 => ?_) (fun hc98 => ?_)))))
      ·replace hm := bt hm hc98
       refine Cw.skip (Cw.seq (Cw.block (Cw.draw [] [(0, 0), (1, 0), (2, 1), (3, 0), (4, 1), (5, 0), (6, 0), (7, 0), (8, 1), (9, 0), (10, 0), (11, 1), (13, 0), (12, 2), (14, 2), (15, 0), (16, 0)] mixed (by kernel_rfl) fun W99 l99 => ?_)))
       have a100 := a88.n l99
       have o101 := o89.up l99 rfl
       have b104 := (b81.up l85 rfl).up l99 rfl
       refine Mw.p rfl rfl (fun _ => R.mv (v := vB y83) rfl) (Mw.p rfl rfl (fun _ => R.mv (v := vB y83) rfl) (bsplit y83 (fun hc105 => ?_) (fun hc105 => ?_)))
       ·replace hm := bt hm hc105
        refine Mw.ps hc105 rfl rfl (Mw.ps hc105 rfl rfl (Mw.ps hc105 rfl rfl (Mw.ps hc105 rfl rfl (Mw.ps hc105 rfl rfl (Mw.ps hc105 rfl rfl (Mw.ps hc105 rfl rfl (Mw.ps hc105 rfl rfl (Mw.ps hc105 rfl rfl (Mw.ps hc105 rfl rfl (Mw.ps hc105 rfl rfl (Mw.ps hc105 rfl rfl (Mw.ps hc105 rfl rfl (Mw.p rfl rfl (fun _ => R.pk hc105 rfl (v := vB true) rfl) (Mw.p rfl rfl (fun _ => R.as (v := vB true) rfl) (Mw.nil (Cw.region (Lw.m (vI y84) rfl (Lw.add rfl (Lw.g (vI (w64 (y84 + 1))) rfl (Lw.nil (⟨?_, m87, Nat.lt_succ_self m87, ⟨true, w64 (y84 + 1), W99, rfl, (l85.trans l99), rfl, hm⟩⟩)))))))))))))))))))))
        iterate 31 (refine .u ?_)
        exact Agree.base
       ·replace hm := bf hm hc105
        refine Mw.gq hc105 rfl rfl rfl rfl rfl (fun _ c => R.lda (cs := [v0_0_4, v0_1_4]) (b104.clcs rfl c) rfl rfl) (Mw.gp hc105 rfl rfl rfl rfl rfl (fun _ => R.fa rfl) (Mw.gq hc105 rfl rfl rfl rfl rfl (fun _ c => R.ld (v := v0_0_4) rfl rfl (b104.clc rfl rfl c)) (Mw.gp hc105 rfl rfl rfl rfl rfl (fun _ => R.mv (v := vI z2.2) rfl) ?_)))
        obtain ⟨u106, e107, hm⟩ := ob hm
        refine Mw.gp hc105 rfl rfl rfl rfl rfl (fun _ => R.ix (α := Commit) o101.rd e107 rfl rfl rfl) (Mw.gp hc105 rfl rfl rfl rfl rfl (fun _ => R.fa rfl) ?_)
        obtain ⟨v108, c109, r110⟩ := (Commit.at0 (o101.rd.at_ e107)).cell rfl
        refine Mw.gq hc105 rfl rfl rfl rfl rfl (fun _ c => R.ld rfl rfl (cl_cell (Commit.at0 (o101.rd.at_ e107)).1 rfl c109 c)) (Mw.gp hc105 rfl rfl rfl rfl rfl (fun _ => R.mv (v := vI y84) rfl) ?_)
        obtain ⟨u111, e112, hm⟩ := ob hm
        refine Mw.gp hc105 rfl rfl rfl rfl rfl (fun _ => R.ix (α := Int) r110 e112 rfl rfl rfl) (Mw.gq hc105 rfl rfl rfl rfl rfl (fun _ c => R.ld rfl rfl (cl_cell (r110.at_ e112).1 rfl (r110.at_ e112).int c)) (Mw.gp hc105 rfl rfl rfl rfl rfl (fun _ => R.mv (v := vI y71) rfl) ?_))
        obtain ⟨z114, e115, hm⟩ := ob hm
        refine Mw.gt hc105 rfl rfl rfl rfl rfl (T.call rfl (p17 (K := [0, 2, 3]) (k0 := 7) (x0 := (Vm.Repo.mk z2.1.Commits z2.1.Heads)) ((Repo.rd (K := [2, 3]) z2.1.Commits z2.1.Heads (o101.rd.sub (M := [2, 3]) rfl) (((((o27.up l50 rfl).up l74 rfl).up l85 rfl).up l99 rfl).rd.sub (M := [2, 3]) rfl)).sub (M := [0, 2, 3]) rfl) ((h99.ul a100).sub (M := [0, 2, 3]) rfl) e115)) ?_
        rintro v0_116 _ ⟨W116, rfl, l116, ⟨_, rfl, f116_0⟩⟩
        refine ⟨⟨_, rfl, (l116.sub (M := []) rfl)⟩, ?_⟩
        obtain ⟨z122, e123, hm⟩ := ob hm
        refine Mw.gt hc105 rfl rfl rfl rfl rfl (T.call rfl (p16 (K := [7])  f116_0.rd e123)) ?_
        rintro _ _ ⟨W124, rfl, l124, rfl⟩
        refine ⟨⟨_, rfl, ((l116.sub (M := []) rfl).trans (l124.sub (M := []) rfl))⟩, ?_⟩
        refine Mw.p rfl rfl (fun _ => R.pk hc105 rfl (v := vB z122) rfl) (Mw.p rfl rfl (fun _ => R.as (v := vB z122) rfl) (Mw.nil (Cw.region (Lw.m (vI y84) rfl (Lw.add rfl (Lw.g (vI (w64 (y84 + 1))) rfl (Lw.nil (⟨?_, m87, Nat.lt_succ_self m87, ⟨z122, w64 (y84 + 1), W124, rfl, (l85.trans (l99.trans (l116.trans l124))), rfl, hm⟩⟩))))))))
        iterate 31 (refine .u ?_)
        exact Agree.base
      ·replace hm := bf hm hc98
       refine Cw.exit ?_
       rw [hK86] at hm
       refine Cw.seq (Cw.region (Lw.m (vB y83) rfl (Lw.m v0_17 rfl (Lw.m (vI y71) rfl ?_))))
       obtain ⟨z131, e132, hm⟩ := ob hm
       refine Lw.t rfl (T.call rfl (p16 (K := [5])  (o80.up l85 rfl).rd e132)) ?_
       rintro _ _ ⟨W133, rfl, l133, rfl⟩
       have a134 := a88.n l133
       refine Lw.r rfl (R.bne rfl rfl) (Lw.nil (Cw.cond (b := (y83 != z131)) rfl (fun hc139 => ?_) (fun hc139 => ?_)))
       ·replace hm := bt hm hc139
        refine Cw.seq (Cw.region (Lw.g (vB false) rfl (Lw.nil ?_)))
        cases hm
        exact Cw.ret (ret1 rfl (Res.mk a134 rfl))
       ·replace hm := bf hm hc139
        refine Cw.skip (Cw.region (Lw.m (vI y71) rfl (Lw.add rfl (Lw.g (vI (w64 (y71 + 1))) rfl (Lw.nil (⟨?_, m76, Nat.lt_succ_self m76, ⟨y70, w64 (y71 + 1), vB y83, vI y84, W133, rfl, (l74.trans (l85.trans l133)), rfl, hm⟩⟩))))))
        iterate 19 (refine .u ?_)
        refine Agree.ov0 rfl ?_
        iterate 14 (refine .u ?_)
        exact Agree.base
     ·replace hm := bf hm hc82
      refine Cw.exit ?_
      rw [hK75] at hm
      refine Cw.seq (Cw.region (Lw.m v0_17 rfl (Lw.m v0_17 rfl (Lw.ln z15 o80.rd rfl (Lw.sub rfl ?_)))))
      obtain ⟨u140, e141, hm⟩ := ob hm
      refine Lw.r rfl (R.ix (α := Int) o80.rd e141 rfl rfl rfl) (Lw.r rfl (R.ld rfl rfl (o80.rd.at_ e141).int) (Lw.m (vI z2.2) rfl (Lw.eq rfl (Lw.g (vB ((u140 : Int) == (z2.2 : Int))) rfl (Lw.nil ?_)))))
      cases hm
      exact Cw.ret (ret1 rfl (Res.mk a77 rfl))
  ·refine Cw.region (Lw.m v0_17 rfl (Lw.r rfl (R.lda (cs := [v0_0_4, v0_1_4]) (b10.up l17 rfl).cells rfl rfl) (Lw.m (vI z2.2) rfl ?_)))
   obtain ⟨z142, e143, hm⟩ := ob hm
   refine Lw.t rfl (T.call rfl (p23 (K := [2, 3]) (k0 := 8) (x0 := (Vm.Repo.mk z2.1.Commits z2.1.Heads)) (Repo.rd (K := [2, 3]) z2.1.Commits z2.1.Heads ((o12.up l17 rfl).rd.sub (M := [2, 3]) rfl) ((o13.up l17 rfl).rd.sub (M := [2, 3]) rfl)) e143)) ?_
   rintro v0_144 _ ⟨W144, rfl, l144, ⟨_, rfl, f144_0⟩⟩
   obtain ⟨z150, e151, hm⟩ := ob hm
   refine Lw.t rfl (T.call rfl (p20 (K := [5, 8])  ((f17_0.up l144 rfl).rd.sub (M := [5, 8]) rfl) (f144_0.rd.sub (M := [5, 8]) rfl) e151)) ?_
   rintro _ _ ⟨W152, rfl, l152, rfl⟩
   refine Lw.r rfl (R.not rfl) (Lw.m (vB (!z150)) rfl (bsplit (!z150) (fun hc159 => ?_) (fun hc159 => ?_)))
   ·replace hm := bt hm hc159
    refine Lw.ps hc159 rfl (Lw.ps hc159 rfl (Lw.ps hc159 rfl (Lw.p hc159 (vB true) rfl (Lw.nil (⟨?_, ⟨true, W152, rfl, (l144.trans l152), rfl, hm⟩⟩)))))
    iterate 11 (refine .u ?_)
    exact Agree.refl _
   ·replace hm := bf hm hc159
    refine Lw.wa hc159 rfl (Lw.m v0_17 rfl (Lw.wa hc159 rfl (Lw.ln z15 ((f17_0.up l144 rfl).up l152 rfl).rd rfl (Lw.wa hc159 rfl (Lw.eq rfl (Lw.p hc159 (vB (((z15.length : Int) : Int) == (0 : Int))) rfl (Lw.nil (⟨?_, ⟨(((z15.length : Int) : Int) == (0 : Int)), W152, rfl, (l144.trans l152), rfl, hm⟩⟩))))))))
    iterate 11 (refine .u ?_)
    exact Agree.refl _

theorem p6 {W : CW} {K : List Nat} {x0 : List Byte} {v0_ : Value} {r : Bool} (h0 : Rd W K [v0_] x0) (h99 : Gl 0 W K) (hm : Vm.laws_FnAncAll x0 = some r) : CallR Tryz.prog 6 [v0_].toArray W.w (Res W [] fun W' v => v = vB r) :=
 (c6 (V := W.view K []) (h0.view _) (h99.view _) hm).ad (fk 0) fun _ _ e => e

end Go.Sx
