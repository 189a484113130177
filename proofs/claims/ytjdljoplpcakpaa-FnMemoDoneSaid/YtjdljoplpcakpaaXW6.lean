/- Walks: each function answers as its model, printed by a program of ours. Conditions: the arguments read as they are given. -/
import Derived.Test.YtjdljoplpcakpaaXTs
import Derived.Test.YtjdljoplpcakpaaXMd
import Derived.Test.YtjdljoplpcakpaaXW0
import Derived.Test.YtjdljoplpcakpaaXW1
import Derived.Test.YtjdljoplpcakpaaXW2
import Derived.Test.YtjdljoplpcakpaaXW4
import Derived.Test.YtjdljoplpcakpaaXW5
namespace Go.Sx
open Go Go.Proofs Go.Vm Rp
set_option linter.unusedVariables false
set_option linter.unusedSimpArgs false

theorem c71 {V : CW} {x0 : List Byte} {v0_ : Value} {r : (List Str) × (List Str) × (List Str)} (h0 : Rd V [0] [v0_] x0) (hm : Vm.spec_l30Three x0 = some r) : CallR Try.prog 71 [v0_].toArray V.w (Res V LL fun Wf v => ∃ (u0 : Value) (u1 : Value) (u2 : Value), v = .tuple [u0, u1, u2].toArray ∧ OwS Wf LL [] [u0] r.1 ∧ Rd Wf [0] [u1] r.2.1 ∧ Rd Wf [0] [u2] r.2.2) := by
  unfold Vm.spec_l30Three at hm
  obtain ⟨W0, hW0⟩ : ∃ W, W = V := ⟨V, rfl⟩
  subst hW0
  refine CallR.of Try.func71 rfl rfl rfl rfl ?_
  refine Cw.seq ?_
  refine Cw.region ?_
  refine Lw.r rfl (R.as (v := .slice none 0 0) rfl) (Lw.r rfl (R.as (v := .slice none 0 0) rfl) (Lw.r rfl (R.as (v := .slice none 0 0) rfl) ?_))
  refine Lw.nil ?_
  refine Cw.seq ?_
  refine Cw.region ?_
  refine Lw.r rfl (R.mv (v := v0_) rfl) ?_
  obtain ⟨z1, e2, hm⟩ := ob hm
  refine Lw.t rfl (T.call rfl (p58 (K := [0]) (k0 := 2) h0 e2)) ?_
  rintro _ _ ⟨W3, rfl, l3, ⟨g0_3, v0_0_3, rfl, f3_0, f3_1⟩⟩
  have s4 := f3_1.sub (M := [0]) rfl
  have a5 : Le LL _ _ := l3.nil
  refine Lw.r rfl (R.as (v := ptr (bx g0_3)) rfl) ?_
  refine Lw.nil ?_
  refine Cw.seq ?_
  refine Cw.region ?_
  refine Lw.r rfl (R.mv (v := ptr (bx g0_3)) rfl) ?_
  obtain ⟨z6, e7, hm⟩ := ob hm
  refine Lw.t rfl (T.call rfl (p77 (K := [0]) (k0 := 3) (c0 := 2) (x0 := z1) f3_0 s4 rfl e7)) ?_
  rintro v0_8 _ ⟨W8, rfl, l8, ⟨_, rfl, f8_0, f8_1⟩⟩
  have a9 : Le LL _ _ := l8.sub rfl
  refine Lw.r rfl (R.as (v := v0_8) rfl) ?_
  refine Lw.nil ?_
  refine Cw.seq ?_
  refine Cw.region ?_
  refine Lw.r rfl (R.mv (v := ptr (bx g0_3)) rfl) (Lw.r rfl (R.mv (v := v0_8) rfl) ?_)
  have s10 := s4.ul a9
  obtain ⟨z11, e12, hm⟩ := ob hm
  refine Lw.t rfl (T.call rfl (p78 (K := [0, 3]) (k0 := 4) (c0 := 2) (x0 := (Vm.l30Rd.mk z1.b z6.2)) f8_1 (s10.sub (M := [0, 3]) rfl) (f8_0.rd.sub (M := [0, 3]) rfl) rfl e12)) ?_
  rintro v0_13 _ ⟨W13, rfl, l13, ⟨_, rfl, f13_0, f13_1⟩⟩
  have a14 : Le LL _ _ := l13.sub rfl
  have o15 := f8_0.up l13 rfl
  refine Lw.r rfl (R.as (v := v0_13) rfl) ?_
  refine Lw.nil ?_
  refine Cw.seq ?_
  refine Cw.seq ?_
  refine Cw.region ?_
  refine Lw.r rfl (R.mv (v := ptr (bx g0_3)) rfl) ?_
  have s16 := s4.ul (a9.trans a14)
  obtain ⟨z17, e18, hm⟩ := ob hm
  refine Lw.t rfl (T.call rfl (p79 (K := [0])  (c0 := 2) (x0 := (Vm.l30Rd.mk z1.b z11.2)) f13_1 s16 rfl e18)) ?_
  rintro _ _ ⟨W19, rfl, l19, ⟨rfl, f19_0⟩⟩
  have a20 : Le LL _ _ := l19.sub rfl
  have o21 := o15.up l19 rfl
  have o22 := f13_0.up l19 rfl
  refine Lw.r rfl (R.eq rfl rfl) ?_
  refine Lw.nil ?_
  refine Cw.cond (b := ((z17.1 : Int) == (0 : Int))) rfl (fun hc23 => ?_) (fun hc23 => ?_)
  · replace hm := bt hm hc23
    refine Cw.seq ?_
    refine Cw.region ?_
    refine Lw.r rfl (R.mv (v := v0_8) rfl) (Lw.r rfl (R.mv (v := v0_13) rfl) (Lw.r rfl (R.mv (v := v0_13) rfl) (Lw.r rfl (R.as (v := v0_8) rfl) (Lw.r rfl (R.as (v := v0_13) rfl) (Lw.r rfl (R.as (v := v0_13) rfl) ?_)))))
    refine Lw.nil ?_
    obtain ⟨W24, ew24, l24, dj24⟩ := dyeE _ 4
    have s25 : Rd (α := List Str) W24 [0] [v0_13] z11.1 := by rw [dj24]; exact (o22.rd.dye 4).sub (M := [0]) rfl
    have a26 : Le LL _ _ := l24.sub rfl
    have o27 := o21.up l24 rfl
    have b28 := f19_0.up l24 rfl
    cases hm
    rw [← ew24]
    exact Cw.ret (ret3 rfl rfl rfl (Res.mk (a5.trans (a9.trans (a14.trans (a20.trans a26)))) ⟨v0_8, v0_13, v0_13, rfl, o27.s.sub rfl rfl, s25, s25⟩))
  · replace hm := bf hm hc23
    refine Cw.skip ?_
    refine Cw.seq ?_
    refine Cw.region ?_
    refine Lw.r rfl (R.mv (v := v0_8) rfl) (Lw.r rfl (R.mv (v := v0_13) rfl) (Lw.r rfl (R.mv (v := ptr (bx g0_3)) rfl) (Lw.r rfl (R.mv (v := v0_8) rfl) ?_)))
    have s29 := s4.ul (a9.trans (a14.trans a20))
    obtain ⟨z30, e31, hm⟩ := ob hm
    refine Lw.t rfl (T.call rfl (p78 (K := [0, 3]) (k0 := 5) (c0 := 2) (x0 := (Vm.l30Rd.mk z1.b z17.2)) f19_0 (s29.sub (M := [0, 3]) rfl) (o21.rd.sub (M := [0, 3]) rfl) rfl e31)) ?_
    rintro v0_32 _ ⟨W32, rfl, l32, ⟨_, rfl, f32_0, f32_1⟩⟩
    have a33 : Le LL _ _ := l32.sub rfl
    have o34 := o21.up l32 rfl
    have o35 := o22.up l32 rfl
    refine Lw.r rfl (R.as (v := v0_8) rfl) (Lw.r rfl (R.as (v := v0_13) rfl) (Lw.r rfl (R.as (v := v0_32) rfl) ?_))
    refine Lw.nil ?_
    obtain ⟨W36, ew36, l36, dj36⟩ := dyeE _ 4
    have s37 : Rd (α := List Str) W36 [0] [v0_13] z11.1 := by rw [dj36]; exact (o35.rd.dye 4).sub (M := [0]) rfl
    have a38 : Le LL _ _ := l36.sub rfl
    have o39 := o34.up l36 rfl
    have o40 := f32_0.up l36 rfl
    have b41 := f32_1.up l36 rfl
    obtain ⟨W42, ew42, l42, dj42⟩ := dyeE _ 5
    have s43 : Rd (α := List Str) W42 [0] [v0_32] z30.1 := by rw [dj42]; exact (o40.rd.dye 5).sub (M := [0]) rfl
    have a44 : Le LL _ _ := l42.sub rfl
    have o45 := o39.up l42 rfl
    have b46 := b41.up l42 rfl
    have s47 := s37.ul a44
    cases hm
    rw [← ew42.trans (ew36)]
    exact Cw.ret (ret3 rfl rfl rfl (Res.mk (a5.trans (a9.trans (a14.trans (a20.trans (a33.trans (a38.trans a44)))))) ⟨v0_8, v0_13, v0_32, rfl, o45.s.sub rfl rfl, s47, s43⟩))

theorem p71 {W : CW} {K : List Nat} {x0 : List Byte} {v0_ : Value} {k0 : Nat} {r : (List Str) × (List Str) × (List Str)} (h0 : Rd W K [v0_] x0) (hm : Vm.spec_l30Three x0 = some r) : CallR Try.prog 71 [v0_].toArray W.w (Res W [] fun W' v => ∃ (u0 : Value) (u1 : Value) (u2 : Value), v = .tuple [u0, u1, u2].toArray ∧ Ow W' k0 [] [u0] r.1 ∧ Rd W' (0 :: K) [u1] r.2.1 ∧ Rd W' (0 :: K) [u2] r.2.2) :=
  (c71 (V := W.view K []) (h0.view _) hm).ad (fk k0) fun _ _ ⟨u0, u1, u2, e, f0, f1, f2⟩ => ⟨u0, u1, u2, e, f0.back (fk_LL _), f1.back rfl, f2.back rfl⟩

theorem c32 {V : CW} {x0 : List Byte} {v0_ : Value} {r : (List Str) × (List Str) × (List Str)} (h0 : Rd V [0] [v0_] x0) (hm : Vm.spec_DrawMergeOf x0 = some r) : CallR Try.prog 32 [v0_].toArray V.w (Res V LL fun Wf v => ∃ (u0 : Value) (u1 : Value) (u2 : Value), v = .tuple [u0, u1, u2].toArray ∧ OwS Wf LL [] [u0] r.1 ∧ Rd Wf [0] [u1] r.2.1 ∧ Rd Wf [0] [u2] r.2.2) := by
  unfold Vm.spec_DrawMergeOf at hm
  obtain ⟨W0, hW0⟩ : ∃ W, W = V := ⟨V, rfl⟩
  subst hW0
  refine CallR.of Try.func32 rfl rfl rfl rfl ?_
  refine Cw.seq ?_
  refine Cw.region ?_
  refine Lw.r rfl (R.as (v := .slice none 0 0) rfl) (Lw.r rfl (R.as (v := .slice none 0 0) rfl) (Lw.r rfl (R.as (v := .slice none 0 0) rfl) ?_))
  refine Lw.nil ?_
  refine Cw.seq ?_
  refine Cw.region ?_
  refine Lw.r rfl (R.mv (v := v0_) rfl) ?_
  obtain ⟨z1, e2, hm⟩ := ob hm
  refine Lw.t rfl (T.call rfl (p71 (K := [0]) (k0 := 2) h0 e2)) ?_
  rintro _ _ ⟨W3, rfl, l3, ⟨v0_3, v1_3, v2_3, rfl, f3_0, f3_1, f3_2⟩⟩
  have s4 := f3_1.sub (M := [0]) rfl
  have s5 := f3_2.sub (M := [0]) rfl
  have a6 : Le LL _ _ := l3.nil
  refine Lw.r rfl (R.ext (vs := [v0_3, v1_3, v2_3]) (v := v0_3) rfl rfl) (Lw.r rfl (R.ext (vs := [v0_3, v1_3, v2_3]) (v := v1_3) rfl rfl) (Lw.r rfl (R.ext (vs := [v0_3, v1_3, v2_3]) (v := v2_3) rfl rfl) (Lw.r rfl (R.as (v := v0_3) rfl) (Lw.r rfl (R.as (v := v1_3) rfl) (Lw.r rfl (R.as (v := v2_3) rfl) ?_)))))
  refine Lw.nil ?_
  cases hm
  exact Cw.ret (ret3 rfl rfl rfl (Res.mk a6 ⟨v0_3, v1_3, v2_3, rfl, f3_0.s.sub rfl rfl, s4, s5⟩))

theorem p32 {W : CW} {K : List Nat} {x0 : List Byte} {v0_ : Value} {k0 : Nat} {r : (List Str) × (List Str) × (List Str)} (h0 : Rd W K [v0_] x0) (hm : Vm.spec_DrawMergeOf x0 = some r) : CallR Try.prog 32 [v0_].toArray W.w (Res W [] fun W' v => ∃ (u0 : Value) (u1 : Value) (u2 : Value), v = .tuple [u0, u1, u2].toArray ∧ Ow W' k0 [] [u0] r.1 ∧ Rd W' (0 :: K) [u1] r.2.1 ∧ Rd W' (0 :: K) [u2] r.2.2) :=
  (c32 (V := W.view K []) (h0.view _) hm).ad (fk k0) fun _ _ ⟨u0, u1, u2, e, f0, f1, f2⟩ => ⟨u0, u1, u2, e, f0.back (fk_LL _), f1.back rfl, f2.back rfl⟩

theorem c33 {V : CW} {x0 : List Str} {v0_ : Value} {x1 : List Str} {v1_ : Value} {x2 : List Str} {v2_ : Value} {r : (List Vm.Part)} (h0 : Rd V [0] [v0_] x0) (h1 : Rd V [0] [v1_] x1) (h2 : Rd V [0] [v2_] x2) (hm : Vm.impl_MergeOf x0 x1 x2 = some r) : CallR Try.prog 33 [v0_, v1_, v2_].toArray V.w (Res V LL fun Wf v => ∃ (u0 : Value), v = u0 ∧ OwS Wf LL [] [u0] r) := by
  unfold Vm.impl_MergeOf at hm
  obtain ⟨W0, hW0⟩ : ∃ W, W = V := ⟨V, rfl⟩
  subst hW0
  refine CallR.of Try.func33 rfl rfl rfl rfl ?_
  refine Cw.seq ?_
  refine Cw.region ?_
  refine Lw.r rfl (R.as (v := .slice none 0 0) rfl) ?_
  refine Lw.nil ?_
  refine Cw.seq ?_
  refine Cw.seq ?_
  refine Cw.region ?_
  refine Lw.r rfl (R.mv (v := v0_) rfl) (Lw.r rfl (R.mv (v := v1_) rfl) (Lw.r rfl (R.mv (v := v2_) rfl) ?_))
  obtain ⟨z1, e2, hm⟩ := ob hm
  refine Lw.t rfl (T.call rfl (p54 (K := [0])  h0 h1 h2 e2)) ?_
  rintro _ _ ⟨W3, rfl, l3, rfl⟩
  have a4 : Le LL _ _ := l3.nil
  refine Lw.r rfl (R.not rfl) ?_
  refine Lw.nil ?_
  refine Cw.cond (b := (!z1)) rfl (fun hc5 => ?_) (fun hc5 => ?_)
  · replace hm := bt hm hc5
    refine Cw.seq ?_
    refine Cw.region ?_
    refine Lw.r rfl (R.as (v := .slice none 0 0) rfl) ?_
    refine Lw.nil ?_
    cases hm
    exact Cw.ret (ret1 rfl (Res.mk a4 ⟨.slice none 0 0, rfl, (owsN []).sub rfl rfl⟩))
  · replace hm := bf hm hc5
    refine Cw.skip ?_
    refine Cw.seq ?_
    refine Cw.region ?_
    refine Lw.r rfl (R.mv (v := v0_) rfl) (Lw.r rfl (R.mv (v := v1_) rfl) (Lw.r rfl (R.mv (v := v2_) rfl) ?_))
    have s6 := h0.ul a4
    have s7 := h1.ul a4
    have s8 := h2.ul a4
    obtain ⟨z9, e10, hm⟩ := ob hm
    refine Lw.t rfl (T.call rfl (p69 (K := [0]) (k0 := 2) s6 s7 s8 e10)) ?_
    rintro v0_11 _ ⟨W11, rfl, l11, ⟨_, rfl, f11_0⟩⟩
    have a12 : Le LL _ _ := l11.nil
    refine Lw.r rfl (R.as (v := v0_11) rfl) ?_
    refine Lw.nil ?_
    cases hm
    exact Cw.ret (ret1 rfl (Res.mk (a4.trans a12) ⟨v0_11, rfl, f11_0.s.sub rfl rfl⟩))

theorem p33 {W : CW} {K : List Nat} {x0 : List Str} {v0_ : Value} {x1 : List Str} {v1_ : Value} {x2 : List Str} {v2_ : Value} {k0 : Nat} {r : (List Vm.Part)} (h0 : Rd W K [v0_] x0) (h1 : Rd W K [v1_] x1) (h2 : Rd W K [v2_] x2) (hm : Vm.impl_MergeOf x0 x1 x2 = some r) : CallR Try.prog 33 [v0_, v1_, v2_].toArray W.w (Res W [] fun W' v => ∃ (u0 : Value), v = u0 ∧ Ow W' k0 [] [u0] r) :=
  (c33 (V := W.view K []) (h0.view _) (h1.view _) (h2.view _) hm).ad (fk k0) fun _ _ ⟨u0, e, f0⟩ => ⟨u0, e, f0.back (fk_LL _)⟩

theorem c35 {V : CW} {x0 : List Str} {v0_ : Value} {x1 : List Str} {v1_ : Value} {x2 : List Str} {v2_ : Value} {r : (List Vm.Part)} (h0 : Rd V [0] [v0_] x0) (h1 : Rd V [0] [v1_] x1) (h2 : Rd V [0] [v2_] x2) (hm : Vm.spec_MergeOf x0 x1 x2 = some r) : CallR Try.prog 35 [v0_, v1_, v2_].toArray V.w (Res V LL fun Wf v => ∃ (u0 : Value), v = u0 ∧ OwS Wf LL [] [u0] r) := by
  unfold Vm.spec_MergeOf at hm
  obtain ⟨W0, hW0⟩ : ∃ W, W = V := ⟨V, rfl⟩
  subst hW0
  refine CallR.of Try.func35 rfl rfl rfl rfl ?_
  refine Cw.seq ?_
  refine Cw.region ?_
  refine Lw.r rfl (R.as (v := .slice none 0 0) rfl) ?_
  refine Lw.nil ?_
  refine Cw.seq ?_
  obtain ⟨K3, hK3, hm⟩ := jn_e hm
  refine Cw.join 7 19 [19] (fun l w => ∃ (y1 : Bool) (W2 : CW), W2.w = w ∧ Le [] W0 W2 ∧ l = [vB y1] ∧ K3 y1 = some r) ?_ ?_
  · rintro _ _ σ ⟨y1, W2, rfl, l2, rfl, hm⟩
    rw [hK3] at hm
    have a4 : Le LL _ _ := l2.nil
    refine Cw.cond (b := y1) rfl (fun hc5 => ?_) (fun hc5 => ?_)
    · replace hm := bt hm hc5
      refine Cw.seq ?_
      refine Cw.region ?_
      refine Lw.r rfl (R.as (v := .slice none 0 0) rfl) ?_
      refine Lw.nil ?_
      cases hm
      exact Cw.ret (ret1 rfl (Res.mk a4 ⟨.slice none 0 0, rfl, (owsN []).sub rfl rfl⟩))
    · replace hm := bf hm hc5
      refine Cw.skip ?_
      refine Cw.seq ?_
      refine Cw.region ?_
      refine Lw.r rfl (R.mv (v := v0_) rfl) (Lw.r rfl (R.mv (v := v1_) rfl) (Lw.r rfl (R.mv (v := v2_) rfl) ?_))
      have s6 := h0.ul a4
      have s7 := h1.ul a4
      have s8 := h2.ul a4
      obtain ⟨z9, e10, hm⟩ := ob hm
      refine Lw.t rfl (T.call rfl (p67 (K := [0]) (k0 := 2) s6 s7 s8 e10)) ?_
      rintro v0_11 _ ⟨W11, rfl, l11, ⟨_, rfl, f11_0⟩⟩
      have a12 : Le LL _ _ := l11.nil
      refine Lw.r rfl (R.as (v := v0_11) rfl) ?_
      refine Lw.nil ?_
      cases hm
      exact Cw.ret (ret1 rfl (Res.mk (a4.trans a12) ⟨v0_11, rfl, f11_0.s.sub rfl rfl⟩))
  · refine Cw.region ?_
    refine Lw.r rfl (R.mv (v := v0_) rfl) ?_
    obtain ⟨z13, e14, hm⟩ := ob hm
    refine Lw.t rfl (T.call rfl (p66 (K := [0])  h0 e14)) ?_
    rintro _ _ ⟨W15, rfl, l15, rfl⟩
    have a16 : Le LL _ _ := l15.nil
    refine Lw.r rfl (R.not rfl) (Lw.r rfl (R.mv (v := vB (!z13)) rfl) ?_)
    refine bsplit (!z13) (fun hc17 => ?_) (fun hc17 => ?_)
    · replace hm := bt hm hc17
      refine Lw.pass' hc17 rfl rfl rfl rfl rfl rfl rfl ?_
      refine Lw.pass' hc17 rfl rfl rfl rfl rfl rfl rfl ?_
      refine Lw.pass' hc17 rfl rfl rfl rfl rfl rfl rfl ?_
      refine Lw.r rfl (R.pk hc17 rfl (v := vB true) rfl) (Lw.r rfl (R.mv (v := vB true) rfl) ?_)
      refine Lw.pass' rfl rfl rfl rfl rfl rfl rfl rfl ?_
      refine Lw.pass' rfl rfl rfl rfl rfl rfl rfl rfl ?_
      refine Lw.pass' rfl rfl rfl rfl rfl rfl rfl rfl ?_
      refine Lw.r rfl (R.pk rfl rfl (v := vB true) rfl) ?_
      refine Lw.nil ?_
      refine ⟨?_, ⟨true, W15, rfl, l15, rfl, hm⟩⟩
      iterate 13 (refine Agree.up rfl ?_)
      exact Agree.refl _
    · replace hm := bf hm hc17
      refine Lw.want' hc17 rfl rfl rfl rfl ?_
      refine Lw.r rfl (R.mv (v := v1_) rfl) ?_
      refine Lw.want' hc17 rfl rfl rfl rfl ?_
      have s18 := h1.ul a16
      obtain ⟨z19, e20, hm⟩ := ob hm
      refine Lw.t rfl (T.call rfl (p66 (K := [0])  s18 e20)) ?_
      rintro _ _ ⟨W21, rfl, l21, rfl⟩
      have a22 : Le LL _ _ := l21.nil
      refine Lw.want' hc17 rfl rfl rfl rfl ?_
      refine Lw.r rfl (R.not rfl) (Lw.r rfl (R.pk hc17 rfl (v := vB (!z19)) rfl) (Lw.r rfl (R.mv (v := vB (!z19)) rfl) ?_))
      refine bsplit (!z19) (fun hc23 => ?_) (fun hc23 => ?_)
      · replace hm := bt hm hc23
        refine Lw.pass' hc23 rfl rfl rfl rfl rfl rfl rfl ?_
        refine Lw.pass' hc23 rfl rfl rfl rfl rfl rfl rfl ?_
        refine Lw.pass' hc23 rfl rfl rfl rfl rfl rfl rfl ?_
        refine Lw.r rfl (R.pk hc23 rfl (v := vB true) rfl) ?_
        refine Lw.nil ?_
        refine ⟨?_, ⟨true, W21, rfl, (l15.trans l21), rfl, hm⟩⟩
        iterate 13 (refine Agree.up rfl ?_)
        exact Agree.refl _
      · replace hm := bf hm hc23
        refine Lw.want' hc23 rfl rfl rfl rfl ?_
        refine Lw.r rfl (R.mv (v := v2_) rfl) ?_
        refine Lw.want' hc23 rfl rfl rfl rfl ?_
        have s24 := h2.ul (a16.trans a22)
        obtain ⟨z25, e26, hm⟩ := ob hm
        refine Lw.t rfl (T.call rfl (p66 (K := [0])  s24 e26)) ?_
        rintro _ _ ⟨W27, rfl, l27, rfl⟩
        have a28 : Le LL _ _ := l27.nil
        refine Lw.want' hc23 rfl rfl rfl rfl ?_
        refine Lw.r rfl (R.not rfl) (Lw.r rfl (R.pk hc23 rfl (v := vB (!z25)) rfl) ?_)
        refine Lw.nil ?_
        refine ⟨?_, ⟨(!z25), W27, rfl, (l15.trans (l21.trans l27)), rfl, hm⟩⟩
        iterate 13 (refine Agree.up rfl ?_)
        exact Agree.refl _

theorem p35 {W : CW} {K : List Nat} {x0 : List Str} {v0_ : Value} {x1 : List Str} {v1_ : Value} {x2 : List Str} {v2_ : Value} {k0 : Nat} {r : (List Vm.Part)} (h0 : Rd W K [v0_] x0) (h1 : Rd W K [v1_] x1) (h2 : Rd W K [v2_] x2) (hm : Vm.spec_MergeOf x0 x1 x2 = some r) : CallR Try.prog 35 [v0_, v1_, v2_].toArray W.w (Res W [] fun W' v => ∃ (u0 : Value), v = u0 ∧ Ow W' k0 [] [u0] r) :=
  (c35 (V := W.view K []) (h0.view _) (h1.view _) (h2.view _) hm).ad (fk k0) fun _ _ ⟨u0, e, f0⟩ => ⟨u0, e, f0.back (fk_LL _)⟩

theorem c34 {V : CW} {x0 : List Vm.Part} {v0_ : Value} {x1 : List Vm.Part} {v1_ : Value} {r : Bool} (h0 : Rd V [0] [v0_] x0) (h1 : Rd V [0] [v1_] x1) (hm : Vm.laws_smParts x0 x1 = some r) : CallR Try.prog 34 [v0_, v1_].toArray V.w (Res V LL fun Wf v => v = vB r) := by
  unfold Vm.laws_smParts at hm
  obtain ⟨W0, hW0⟩ : ∃ W, W = V := ⟨V, rfl⟩
  subst hW0
  refine CallR.of Try.func34 rfl rfl rfl rfl ?_
  refine Cw.seq ?_
  refine Cw.region ?_
  refine Lw.r rfl (R.as (v := vB false) rfl) ?_
  refine Lw.nil ?_
  refine Cw.seq ?_
  refine Cw.seq ?_
  refine Cw.region ?_
  refine Lw.r rfl (R.mv (v := v0_) rfl) (Lw.r rfl (lenR (xs := x0) h0 rfl) (Lw.r rfl (R.mv (v := v1_) rfl) (Lw.r rfl (lenR (xs := x1) h1 rfl) (Lw.r rfl (R.ne rfl rfl) ?_))))
  refine Lw.nil ?_
  refine Cw.cond (b := (((x0.length : Int) : Int) != ((x1.length : Int) : Int))) rfl (fun hc1 => ?_) (fun hc1 => ?_)
  · replace hm := bt hm hc1
    refine Cw.seq ?_
    refine Cw.region ?_
    refine Lw.r rfl (R.as (v := vB false) rfl) ?_
    refine Lw.nil ?_
    cases hm
    exact Cw.ret (ret1 rfl (Res.mk (Le.refl _ _) rfl))
  · replace hm := bf hm hc1
    refine Cw.skip ?_
    refine Cw.seq ?_
    refine Cw.seq ?_
    refine Cw.region ?_
    refine Lw.r rfl (R.as (v := vI 0) rfl) ?_
    refine Lw.nil ?_
    refine Cw.block ?_
    obtain ⟨K5, hK5, hm⟩ := jn_e hm
    refine Cw.loop 11 83 [4, 5] (fun m l w => ∃ (y2 : Bool) (y3 : Int) (W4 : CW), W4.w = w ∧ Le [] W0 W4 ∧ l = [vB y2, vI y3] ∧ Vm.laws_smParts_l1 x0 x1 K5 m y2 y3 = some r) (((x0.length : Int) - 0).toNat + 1) ⟨false, 0, W0, rfl, Le.refl _ _, rfl, hm⟩ ?_
    rintro m6 _ _ σ ⟨y2, y3, W4, rfl, l4, rfl, hm⟩
    obtain _ | m6 := m6
    · cases hm
    unfold Vm.laws_smParts_l1 at hm
    have a7 : Le LL _ _ := l4.nil
    refine Cw.seq ?_
    refine Cw.seq ?_
    refine Cw.region ?_
    have s8 := h0.ul a7
    refine Lw.r rfl (R.mv (v := vI y3) rfl) (Lw.r rfl (R.mv (v := v0_) rfl) (Lw.r rfl (lenR (xs := x0) s8 rfl) (Lw.r rfl (R.lt rfl rfl) ?_)))
    refine Lw.nil ?_
    refine Cw.cond (b := decide ((y3 : Int) < ((x0.length : Int) : Int))) rfl (fun hc9 => ?_) (fun hc9 => ?_)
    · replace hm := bt hm hc9
      refine Cw.skip ?_
      refine Cw.seq ?_
      refine Cw.block ?_
      obtain ⟨K12, hK12, hm⟩ := jn_e hm
      refine Cw.join 17 83 [83] (fun l w => ∃ (y10 : Bool) (W11 : CW), W11.w = w ∧ Le [] W4 W11 ∧ l = [vB y10] ∧ K12 y10 = some r) ?_ ?_
      · rintro _ _ σ ⟨y10, W11, rfl, l11, rfl, hm⟩
        rw [hK12] at hm
        have a13 : Le LL _ _ := l11.nil
        refine Cw.cond (b := y10) rfl (fun hc14 => ?_) (fun hc14 => ?_)
        · replace hm := bt hm hc14
          refine Cw.seq ?_
          refine Cw.region ?_
          refine Lw.r rfl (R.as (v := vB false) rfl) ?_
          refine Lw.nil ?_
          cases hm
          exact Cw.ret (ret1 rfl (Res.mk (a7.trans a13) rfl))
        · replace hm := bf hm hc14
          refine Cw.skip ?_
          refine Cw.region ?_
          refine Lw.r rfl (R.mv (v := vI y3) rfl) (Lw.r rfl (R.add rfl rfl) (Lw.r rfl (R.as (v := vI (w64 (y3 + 1))) rfl) ?_))
          refine Lw.nil ?_
          refine ⟨?_, m6, Nat.lt_succ_self m6, ⟨y2, w64 (y3 + 1), W11, rfl, (l4.trans l11), rfl, hm⟩⟩
          iterate 3 (refine Agree.up rfl ?_)
          iterate 1 (refine Agree.up rfl ?_)
          refine Agree.ov0 rfl ?_
          iterate 4 (refine Agree.up rfl ?_)
          iterate 2 (refine Agree.up rfl ?_)
          exact Agree.base
      · refine Cw.draw [] [(0, 0), (1, 0), (2, 0), (3, 0), (4, 1), (5, 0), (6, 0), (7, 0), (8, 0), (9, 1), (10, 0), (11, 0), (12, 0), (13, 0), (14, 0), (15, 0), (16, 1), (17, 0), (18, 0), (19, 0), (20, 0), (21, 1), (22, 2), (23, 0), (24, 0), (25, 0), (26, 0), (27, 0), (28, 0), (29, 0), (30, 1), (31, 0), (32, 0), (33, 0), (34, 0), (35, 1), (36, 2), (37, 0), (38, 0), (39, 0), (40, 0), (41, 0), (42, 0), (43, 0), (44, 1), (45, 0), (46, 0), (47, 0), (48, 0), (49, 1), (50, 2), (51, 0), (52, 0), (53, 0), (54, 0), (55, 0), (56, 0), (57, 0), (58, 1), (59, 0), (60, 0), (61, 0), (62, 0), (63, 1), (64, 2), (65, 0), (66, 0)] mixed (by kernel_rfl) fun W15 l15 => ?_
        have a16 : Le LL _ _ := l15.nil
        refine Mw.p rfl rfl (fun _ => R.mv (v := v0_) rfl) (Mw.p rfl rfl (fun _ => R.mv (v := vI y3) rfl) ?_)
        obtain ⟨u17, e18, hm⟩ := ob hm
        have s19 := h0.ul (a7.trans a16)
        refine Mw.p rfl rfl (fun _ => R.ix (α := Part) s19 e18 rfl rfl rfl) (Mw.p rfl rfl (fun _ => R.fa rfl) (Mw.q rfl rfl (fun _ c => R.ld rfl rfl (cl_cell (Part.at0 (s19.at_ e18)).1 rfl (Part.at0 (s19.at_ e18)).bool c)) (Mw.p rfl rfl (fun _ => R.mv (v := v1_) rfl) (Mw.p rfl rfl (fun _ => R.mv (v := vI y3) rfl) ?_))))
        obtain ⟨u20, e21, hm⟩ := ob hm
        have s22 := h1.ul (a7.trans a16)
        refine Mw.p rfl rfl (fun _ => R.ix (α := Part) s22 e21 rfl rfl rfl) (Mw.p rfl rfl (fun _ => R.fa rfl) (Mw.q rfl rfl (fun _ c => R.ld rfl rfl (cl_cell (Part.at0 (s22.at_ e21)).1 rfl (Part.at0 (s22.at_ e21)).bool c)) (Mw.p rfl rfl (fun _ => R.bne rfl rfl) (Mw.p rfl rfl (fun _ => R.mv (v := vB (u17.Clash != u20.Clash)) rfl) ?_))))
        refine bsplit (u17.Clash != u20.Clash) (fun hc23 => ?_) (fun hc23 => ?_)
        · replace hm := bt hm hc23
          refine Mw.pass' hc23 rfl rfl rfl rfl rfl rfl ?_
          refine Mw.pass' hc23 rfl rfl rfl rfl rfl rfl ?_
          refine Mw.pass' hc23 rfl rfl rfl rfl rfl rfl ?_
          refine Mw.pass' hc23 rfl rfl rfl rfl rfl rfl ?_
          refine Mw.pass' hc23 rfl rfl rfl rfl rfl rfl ?_
          refine Mw.pass' hc23 rfl rfl rfl rfl rfl rfl ?_
          refine Mw.pass' hc23 rfl rfl rfl rfl rfl rfl ?_
          refine Mw.pass' hc23 rfl rfl rfl rfl rfl rfl ?_
          refine Mw.pass' hc23 rfl rfl rfl rfl rfl rfl ?_
          refine Mw.pass' hc23 rfl rfl rfl rfl rfl rfl ?_
          refine Mw.pass' hc23 rfl rfl rfl rfl rfl rfl ?_
          refine Mw.pass' hc23 rfl rfl rfl rfl rfl rfl ?_
          refine Mw.p rfl rfl (fun _ => R.pk hc23 rfl (v := vB true) rfl) (Mw.p rfl rfl (fun _ => R.mv (v := vB true) rfl) ?_)
          refine Mw.pass' rfl rfl rfl rfl rfl rfl rfl ?_
          refine Mw.pass' rfl rfl rfl rfl rfl rfl rfl ?_
          refine Mw.pass' rfl rfl rfl rfl rfl rfl rfl ?_
          refine Mw.pass' rfl rfl rfl rfl rfl rfl rfl ?_
          refine Mw.pass' rfl rfl rfl rfl rfl rfl rfl ?_
          refine Mw.pass' rfl rfl rfl rfl rfl rfl rfl ?_
          refine Mw.pass' rfl rfl rfl rfl rfl rfl rfl ?_
          refine Mw.pass' rfl rfl rfl rfl rfl rfl rfl ?_
          refine Mw.pass' rfl rfl rfl rfl rfl rfl rfl ?_
          refine Mw.pass' rfl rfl rfl rfl rfl rfl rfl ?_
          refine Mw.pass' rfl rfl rfl rfl rfl rfl rfl ?_
          refine Mw.pass' rfl rfl rfl rfl rfl rfl rfl ?_
          refine Mw.p rfl rfl (fun _ => R.pk rfl rfl (v := vB true) rfl) (Mw.p rfl rfl (fun _ => R.mv (v := vB true) rfl) ?_)
          refine Mw.pass' rfl rfl rfl rfl rfl rfl rfl ?_
          refine Mw.pass' rfl rfl rfl rfl rfl rfl rfl ?_
          refine Mw.pass' rfl rfl rfl rfl rfl rfl rfl ?_
          refine Mw.pass' rfl rfl rfl rfl rfl rfl rfl ?_
          refine Mw.pass' rfl rfl rfl rfl rfl rfl rfl ?_
          refine Mw.pass' rfl rfl rfl rfl rfl rfl rfl ?_
          refine Mw.pass' rfl rfl rfl rfl rfl rfl rfl ?_
          refine Mw.pass' rfl rfl rfl rfl rfl rfl rfl ?_
          refine Mw.pass' rfl rfl rfl rfl rfl rfl rfl ?_
          refine Mw.pass' rfl rfl rfl rfl rfl rfl rfl ?_
          refine Mw.pass' rfl rfl rfl rfl rfl rfl rfl ?_
          refine Mw.pass' rfl rfl rfl rfl rfl rfl rfl ?_
          refine Mw.p rfl rfl (fun _ => R.pk rfl rfl (v := vB true) rfl) (Mw.p rfl rfl (fun _ => R.mv (v := vB true) rfl) ?_)
          refine Mw.pass' rfl rfl rfl rfl rfl rfl rfl ?_
          refine Mw.pass' rfl rfl rfl rfl rfl rfl rfl ?_
          refine Mw.pass' rfl rfl rfl rfl rfl rfl rfl ?_
          refine Mw.pass' rfl rfl rfl rfl rfl rfl rfl ?_
          refine Mw.pass' rfl rfl rfl rfl rfl rfl rfl ?_
          refine Mw.pass' rfl rfl rfl rfl rfl rfl rfl ?_
          refine Mw.pass' rfl rfl rfl rfl rfl rfl rfl ?_
          refine Mw.pass' rfl rfl rfl rfl rfl rfl rfl ?_
          refine Mw.pass' rfl rfl rfl rfl rfl rfl rfl ?_
          refine Mw.pass' rfl rfl rfl rfl rfl rfl rfl ?_
          refine Mw.pass' rfl rfl rfl rfl rfl rfl rfl ?_
          refine Mw.pass' rfl rfl rfl rfl rfl rfl rfl ?_
          refine Mw.p rfl rfl (fun _ => R.pk rfl rfl (v := vB true) rfl) ?_
          refine Mw.nil ?_
          refine ⟨?_, ⟨true, W15, rfl, l15, rfl, hm⟩⟩
          iterate 67 (refine Agree.up rfl ?_)
          exact Agree.refl _
        · replace hm := bf hm hc23
          refine Mw.gp hc23 rfl rfl rfl rfl rfl (fun _ => R.mv (v := v0_) rfl) (Mw.gp hc23 rfl rfl rfl rfl rfl (fun _ => R.mv (v := vI y3) rfl) ?_)
          obtain ⟨u24, e25, hm⟩ := ob hm
          refine Mw.gp hc23 rfl rfl rfl rfl rfl (fun _ => R.ix (α := Part) s19 e25 rfl rfl rfl) (Mw.gp hc23 rfl rfl rfl rfl rfl (fun _ => R.fa rfl) ?_)
          obtain ⟨v26, c27, r28⟩ := (Part.at1 (s19.at_ e25)).cell rfl
          refine Mw.gq hc23 rfl rfl rfl rfl rfl (fun _ c => R.ld rfl rfl (cl_cell (Part.at1 (s19.at_ e25)).1 rfl c27 c)) (Mw.gp hc23 rfl rfl rfl rfl rfl (fun _ => R.mv (v := v1_) rfl) (Mw.gp hc23 rfl rfl rfl rfl rfl (fun _ => R.mv (v := vI y3) rfl) ?_))
          obtain ⟨u29, e30, hm⟩ := ob hm
          refine Mw.gp hc23 rfl rfl rfl rfl rfl (fun _ => R.ix (α := Part) s22 e30 rfl rfl rfl) (Mw.gp hc23 rfl rfl rfl rfl rfl (fun _ => R.fa rfl) ?_)
          obtain ⟨v31, c32, r33⟩ := (Part.at1 (s22.at_ e30)).cell rfl
          refine Mw.gq hc23 rfl rfl rfl rfl rfl (fun _ c => R.ld rfl rfl (cl_cell (Part.at1 (s22.at_ e30)).1 rfl c32 c)) ?_
          obtain ⟨z34, e35, hm⟩ := ob hm
          refine Mw.gt hc23 rfl rfl rfl rfl rfl (T.call rfl (p39 (K := [0])  r28 r33 e35)) ?_
          rintro _ _ ⟨W36, rfl, l36, rfl⟩
          have a37 : Le LL _ _ := l36.nil
          refine ⟨⟨_, rfl, (l36.sub (M := []) rfl)⟩, ?_⟩
          refine Mw.gp hc23 rfl rfl rfl rfl rfl (fun _ => R.not rfl) (Mw.p rfl rfl (fun _ => R.pk hc23 rfl (v := vB (!z34)) rfl) (Mw.p rfl rfl (fun _ => R.mv (v := vB (!z34)) rfl) ?_))
          refine bsplit (!z34) (fun hc38 => ?_) (fun hc38 => ?_)
          · replace hm := bt hm hc38
            refine Mw.pass' hc38 rfl rfl rfl rfl rfl rfl ?_
            refine Mw.pass' hc38 rfl rfl rfl rfl rfl rfl ?_
            refine Mw.pass' hc38 rfl rfl rfl rfl rfl rfl ?_
            refine Mw.pass' hc38 rfl rfl rfl rfl rfl rfl ?_
            refine Mw.pass' hc38 rfl rfl rfl rfl rfl rfl ?_
            refine Mw.pass' hc38 rfl rfl rfl rfl rfl rfl ?_
            refine Mw.pass' hc38 rfl rfl rfl rfl rfl rfl ?_
            refine Mw.pass' hc38 rfl rfl rfl rfl rfl rfl ?_
            refine Mw.pass' hc38 rfl rfl rfl rfl rfl rfl ?_
            refine Mw.pass' hc38 rfl rfl rfl rfl rfl rfl ?_
            refine Mw.pass' hc38 rfl rfl rfl rfl rfl rfl ?_
            refine Mw.pass' hc38 rfl rfl rfl rfl rfl rfl ?_
            refine Mw.p rfl rfl (fun _ => R.pk hc38 rfl (v := vB true) rfl) (Mw.p rfl rfl (fun _ => R.mv (v := vB true) rfl) ?_)
            refine Mw.pass' rfl rfl rfl rfl rfl rfl rfl ?_
            refine Mw.pass' rfl rfl rfl rfl rfl rfl rfl ?_
            refine Mw.pass' rfl rfl rfl rfl rfl rfl rfl ?_
            refine Mw.pass' rfl rfl rfl rfl rfl rfl rfl ?_
            refine Mw.pass' rfl rfl rfl rfl rfl rfl rfl ?_
            refine Mw.pass' rfl rfl rfl rfl rfl rfl rfl ?_
            refine Mw.pass' rfl rfl rfl rfl rfl rfl rfl ?_
            refine Mw.pass' rfl rfl rfl rfl rfl rfl rfl ?_
            refine Mw.pass' rfl rfl rfl rfl rfl rfl rfl ?_
            refine Mw.pass' rfl rfl rfl rfl rfl rfl rfl ?_
            refine Mw.pass' rfl rfl rfl rfl rfl rfl rfl ?_
            refine Mw.pass' rfl rfl rfl rfl rfl rfl rfl ?_
            refine Mw.p rfl rfl (fun _ => R.pk rfl rfl (v := vB true) rfl) (Mw.p rfl rfl (fun _ => R.mv (v := vB true) rfl) ?_)
            refine Mw.pass' rfl rfl rfl rfl rfl rfl rfl ?_
            refine Mw.pass' rfl rfl rfl rfl rfl rfl rfl ?_
            refine Mw.pass' rfl rfl rfl rfl rfl rfl rfl ?_
            refine Mw.pass' rfl rfl rfl rfl rfl rfl rfl ?_
            refine Mw.pass' rfl rfl rfl rfl rfl rfl rfl ?_
            refine Mw.pass' rfl rfl rfl rfl rfl rfl rfl ?_
            refine Mw.pass' rfl rfl rfl rfl rfl rfl rfl ?_
            refine Mw.pass' rfl rfl rfl rfl rfl rfl rfl ?_
            refine Mw.pass' rfl rfl rfl rfl rfl rfl rfl ?_
            refine Mw.pass' rfl rfl rfl rfl rfl rfl rfl ?_
            refine Mw.pass' rfl rfl rfl rfl rfl rfl rfl ?_
            refine Mw.pass' rfl rfl rfl rfl rfl rfl rfl ?_
            refine Mw.p rfl rfl (fun _ => R.pk rfl rfl (v := vB true) rfl) ?_
            refine Mw.nil ?_
            refine ⟨?_, ⟨true, W36, rfl, (l15.trans l36), rfl, hm⟩⟩
            iterate 67 (refine Agree.up rfl ?_)
            exact Agree.refl _
          · replace hm := bf hm hc38
            refine Mw.gp hc38 rfl rfl rfl rfl rfl (fun _ => R.mv (v := v0_) rfl) (Mw.gp hc38 rfl rfl rfl rfl rfl (fun _ => R.mv (v := vI y3) rfl) ?_)
            obtain ⟨u39, e40, hm⟩ := ob hm
            refine Mw.gp hc38 rfl rfl rfl rfl rfl (fun _ => R.ix (α := Part) s19 e40 rfl rfl rfl) (Mw.gp hc38 rfl rfl rfl rfl rfl (fun _ => R.fa rfl) ?_)
            obtain ⟨v41, c42, r43⟩ := (Part.at2 (s19.at_ e40)).cell rfl
            refine Mw.gq hc38 rfl rfl rfl rfl rfl (fun _ c => R.ld rfl rfl (cl_cell (Part.at2 (s19.at_ e40)).1 rfl c42 c)) (Mw.gp hc38 rfl rfl rfl rfl rfl (fun _ => R.mv (v := v1_) rfl) (Mw.gp hc38 rfl rfl rfl rfl rfl (fun _ => R.mv (v := vI y3) rfl) ?_))
            obtain ⟨u44, e45, hm⟩ := ob hm
            refine Mw.gp hc38 rfl rfl rfl rfl rfl (fun _ => R.ix (α := Part) s22 e45 rfl rfl rfl) (Mw.gp hc38 rfl rfl rfl rfl rfl (fun _ => R.fa rfl) ?_)
            obtain ⟨v46, c47, r48⟩ := (Part.at2 (s22.at_ e45)).cell rfl
            refine Mw.gq hc38 rfl rfl rfl rfl rfl (fun _ c => R.ld rfl rfl (cl_cell (Part.at2 (s22.at_ e45)).1 rfl c47 c)) ?_
            have s49 := r43.ul a37
            have s50 := r48.ul a37
            obtain ⟨z51, e52, hm⟩ := ob hm
            refine Mw.gt hc38 rfl rfl rfl rfl rfl (T.call rfl (p39 (K := [0])  s49 s50 e52)) ?_
            rintro _ _ ⟨W53, rfl, l53, rfl⟩
            have a54 : Le LL _ _ := l53.nil
            refine ⟨⟨_, rfl, ((l36.sub (M := []) rfl).trans (l53.sub (M := []) rfl))⟩, ?_⟩
            refine Mw.gp hc38 rfl rfl rfl rfl rfl (fun _ => R.not rfl) (Mw.p rfl rfl (fun _ => R.pk hc38 rfl (v := vB (!z51)) rfl) (Mw.p rfl rfl (fun _ => R.mv (v := vB (!z51)) rfl) ?_))
            refine bsplit (!z51) (fun hc55 => ?_) (fun hc55 => ?_)
            · replace hm := bt hm hc55
              refine Mw.pass' hc55 rfl rfl rfl rfl rfl rfl ?_
              refine Mw.pass' hc55 rfl rfl rfl rfl rfl rfl ?_
              refine Mw.pass' hc55 rfl rfl rfl rfl rfl rfl ?_
              refine Mw.pass' hc55 rfl rfl rfl rfl rfl rfl ?_
              refine Mw.pass' hc55 rfl rfl rfl rfl rfl rfl ?_
              refine Mw.pass' hc55 rfl rfl rfl rfl rfl rfl ?_
              refine Mw.pass' hc55 rfl rfl rfl rfl rfl rfl ?_
              refine Mw.pass' hc55 rfl rfl rfl rfl rfl rfl ?_
              refine Mw.pass' hc55 rfl rfl rfl rfl rfl rfl ?_
              refine Mw.pass' hc55 rfl rfl rfl rfl rfl rfl ?_
              refine Mw.pass' hc55 rfl rfl rfl rfl rfl rfl ?_
              refine Mw.pass' hc55 rfl rfl rfl rfl rfl rfl ?_
              refine Mw.p rfl rfl (fun _ => R.pk hc55 rfl (v := vB true) rfl) (Mw.p rfl rfl (fun _ => R.mv (v := vB true) rfl) ?_)
              refine Mw.pass' rfl rfl rfl rfl rfl rfl rfl ?_
              refine Mw.pass' rfl rfl rfl rfl rfl rfl rfl ?_
              refine Mw.pass' rfl rfl rfl rfl rfl rfl rfl ?_
              refine Mw.pass' rfl rfl rfl rfl rfl rfl rfl ?_
              refine Mw.pass' rfl rfl rfl rfl rfl rfl rfl ?_
              refine Mw.pass' rfl rfl rfl rfl rfl rfl rfl ?_
              refine Mw.pass' rfl rfl rfl rfl rfl rfl rfl ?_
              refine Mw.pass' rfl rfl rfl rfl rfl rfl rfl ?_
              refine Mw.pass' rfl rfl rfl rfl rfl rfl rfl ?_
              refine Mw.pass' rfl rfl rfl rfl rfl rfl rfl ?_
              refine Mw.pass' rfl rfl rfl rfl rfl rfl rfl ?_
              refine Mw.pass' rfl rfl rfl rfl rfl rfl rfl ?_
              refine Mw.p rfl rfl (fun _ => R.pk rfl rfl (v := vB true) rfl) ?_
              refine Mw.nil ?_
              refine ⟨?_, ⟨true, W53, rfl, (l15.trans (l36.trans l53)), rfl, hm⟩⟩
              iterate 67 (refine Agree.up rfl ?_)
              exact Agree.refl _
            · replace hm := bf hm hc55
              refine Mw.gp hc55 rfl rfl rfl rfl rfl (fun _ => R.mv (v := v0_) rfl) (Mw.gp hc55 rfl rfl rfl rfl rfl (fun _ => R.mv (v := vI y3) rfl) ?_)
              obtain ⟨u56, e57, hm⟩ := ob hm
              refine Mw.gp hc55 rfl rfl rfl rfl rfl (fun _ => R.ix (α := Part) s19 e57 rfl rfl rfl) (Mw.gp hc55 rfl rfl rfl rfl rfl (fun _ => R.fa rfl) ?_)
              obtain ⟨v58, c59, r60⟩ := (Part.at3 (s19.at_ e57)).cell rfl
              refine Mw.gq hc55 rfl rfl rfl rfl rfl (fun _ c => R.ld rfl rfl (cl_cell (Part.at3 (s19.at_ e57)).1 rfl c59 c)) (Mw.gp hc55 rfl rfl rfl rfl rfl (fun _ => R.mv (v := v1_) rfl) (Mw.gp hc55 rfl rfl rfl rfl rfl (fun _ => R.mv (v := vI y3) rfl) ?_))
              obtain ⟨u61, e62, hm⟩ := ob hm
              refine Mw.gp hc55 rfl rfl rfl rfl rfl (fun _ => R.ix (α := Part) s22 e62 rfl rfl rfl) (Mw.gp hc55 rfl rfl rfl rfl rfl (fun _ => R.fa rfl) ?_)
              obtain ⟨v63, c64, r65⟩ := (Part.at3 (s22.at_ e62)).cell rfl
              refine Mw.gq hc55 rfl rfl rfl rfl rfl (fun _ c => R.ld rfl rfl (cl_cell (Part.at3 (s22.at_ e62)).1 rfl c64 c)) ?_
              have s66 := r60.ul (a37.trans a54)
              have s67 := r65.ul (a37.trans a54)
              obtain ⟨z68, e69, hm⟩ := ob hm
              refine Mw.gt hc55 rfl rfl rfl rfl rfl (T.call rfl (p39 (K := [0])  s66 s67 e69)) ?_
              rintro _ _ ⟨W70, rfl, l70, rfl⟩
              have a71 : Le LL _ _ := l70.nil
              refine ⟨⟨_, rfl, ((l36.sub (M := []) rfl).trans ((l53.sub (M := []) rfl).trans (l70.sub (M := []) rfl)))⟩, ?_⟩
              refine Mw.gp hc55 rfl rfl rfl rfl rfl (fun _ => R.not rfl) (Mw.p rfl rfl (fun _ => R.pk hc55 rfl (v := vB (!z68)) rfl) (Mw.p rfl rfl (fun _ => R.mv (v := vB (!z68)) rfl) ?_))
              refine bsplit (!z68) (fun hc72 => ?_) (fun hc72 => ?_)
              · replace hm := bt hm hc72
                refine Mw.pass' hc72 rfl rfl rfl rfl rfl rfl ?_
                refine Mw.pass' hc72 rfl rfl rfl rfl rfl rfl ?_
                refine Mw.pass' hc72 rfl rfl rfl rfl rfl rfl ?_
                refine Mw.pass' hc72 rfl rfl rfl rfl rfl rfl ?_
                refine Mw.pass' hc72 rfl rfl rfl rfl rfl rfl ?_
                refine Mw.pass' hc72 rfl rfl rfl rfl rfl rfl ?_
                refine Mw.pass' hc72 rfl rfl rfl rfl rfl rfl ?_
                refine Mw.pass' hc72 rfl rfl rfl rfl rfl rfl ?_
                refine Mw.pass' hc72 rfl rfl rfl rfl rfl rfl ?_
                refine Mw.pass' hc72 rfl rfl rfl rfl rfl rfl ?_
                refine Mw.pass' hc72 rfl rfl rfl rfl rfl rfl ?_
                refine Mw.pass' hc72 rfl rfl rfl rfl rfl rfl ?_
                refine Mw.p rfl rfl (fun _ => R.pk hc72 rfl (v := vB true) rfl) ?_
                refine Mw.nil ?_
                refine ⟨?_, ⟨true, W70, rfl, (l15.trans (l36.trans (l53.trans l70))), rfl, hm⟩⟩
                iterate 67 (refine Agree.up rfl ?_)
                exact Agree.refl _
              · replace hm := bf hm hc72
                refine Mw.gp hc72 rfl rfl rfl rfl rfl (fun _ => R.mv (v := v0_) rfl) (Mw.gp hc72 rfl rfl rfl rfl rfl (fun _ => R.mv (v := vI y3) rfl) ?_)
                obtain ⟨u73, e74, hm⟩ := ob hm
                refine Mw.gp hc72 rfl rfl rfl rfl rfl (fun _ => R.ix (α := Part) s19 e74 rfl rfl rfl) (Mw.gp hc72 rfl rfl rfl rfl rfl (fun _ => R.fa rfl) ?_)
                obtain ⟨v75, c76, r77⟩ := (Part.at4 (s19.at_ e74)).cell rfl
                refine Mw.gq hc72 rfl rfl rfl rfl rfl (fun _ c => R.ld rfl rfl (cl_cell (Part.at4 (s19.at_ e74)).1 rfl c76 c)) (Mw.gp hc72 rfl rfl rfl rfl rfl (fun _ => R.mv (v := v1_) rfl) (Mw.gp hc72 rfl rfl rfl rfl rfl (fun _ => R.mv (v := vI y3) rfl) ?_))
                obtain ⟨u78, e79, hm⟩ := ob hm
                refine Mw.gp hc72 rfl rfl rfl rfl rfl (fun _ => R.ix (α := Part) s22 e79 rfl rfl rfl) (Mw.gp hc72 rfl rfl rfl rfl rfl (fun _ => R.fa rfl) ?_)
                obtain ⟨v80, c81, r82⟩ := (Part.at4 (s22.at_ e79)).cell rfl
                refine Mw.gq hc72 rfl rfl rfl rfl rfl (fun _ c => R.ld rfl rfl (cl_cell (Part.at4 (s22.at_ e79)).1 rfl c81 c)) ?_
                have s83 := r77.ul (a37.trans (a54.trans a71))
                have s84 := r82.ul (a37.trans (a54.trans a71))
                obtain ⟨z85, e86, hm⟩ := ob hm
                refine Mw.gt hc72 rfl rfl rfl rfl rfl (T.call rfl (p39 (K := [0])  s83 s84 e86)) ?_
                rintro _ _ ⟨W87, rfl, l87, rfl⟩
                have a88 : Le LL _ _ := l87.nil
                refine ⟨⟨_, rfl, ((l36.sub (M := []) rfl).trans ((l53.sub (M := []) rfl).trans ((l70.sub (M := []) rfl).trans (l87.sub (M := []) rfl))))⟩, ?_⟩
                refine Mw.gp hc72 rfl rfl rfl rfl rfl (fun _ => R.not rfl) (Mw.p rfl rfl (fun _ => R.pk hc72 rfl (v := vB (!z85)) rfl) ?_)
                refine Mw.nil ?_
                refine ⟨?_, ⟨(!z85), W87, rfl, (l15.trans (l36.trans (l53.trans (l70.trans l87)))), rfl, hm⟩⟩
                iterate 67 (refine Agree.up rfl ?_)
                exact Agree.refl _
    · replace hm := bf hm hc9
      refine Cw.exit ?_
      rw [hK5] at hm
      refine Cw.seq ?_
      refine Cw.region ?_
      refine Lw.r rfl (R.as (v := vB true) rfl) ?_
      refine Lw.nil ?_
      cases hm
      exact Cw.ret (ret1 rfl (Res.mk a7 rfl))

theorem p34 {W : CW} {K : List Nat} {x0 : List Vm.Part} {v0_ : Value} {x1 : List Vm.Part} {v1_ : Value} {r : Bool} (h0 : Rd W K [v0_] x0) (h1 : Rd W K [v1_] x1) (hm : Vm.laws_smParts x0 x1 = some r) : CallR Try.prog 34 [v0_, v1_].toArray W.w (Res W [] fun W' v => v = vB r) :=
  (c34 (V := W.view K []) (h0.view _) (h1.view _) hm).ad (fk 0) fun _ _ e => e

theorem c36 {V : CW} {x0 : List Str} {v0_ : Value} {x1 : List Str} {v1_ : Value} {x2 : List Str} {v2_ : Value} {r : Int} (h0 : Rd V [0] [v0_] x0) (h1 : Rd V [0] [v1_] x1) (h2 : Rd V [0] [v2_] x2) (hm : Vm.impl_MergeClash x0 x1 x2 = some r) : CallR Try.prog 36 [v0_, v1_, v2_].toArray V.w (Res V LL fun Wf v => v = vI r) := by
  unfold Vm.impl_MergeClash at hm
  obtain ⟨W0, hW0⟩ : ∃ W, W = V := ⟨V, rfl⟩
  subst hW0
  refine CallR.of Try.func36 rfl rfl rfl rfl ?_
  refine Cw.seq ?_
  refine Cw.region ?_
  refine Lw.r rfl (R.as (v := vI 0) rfl) ?_
  refine Lw.nil ?_
  refine Cw.seq ?_
  refine Cw.seq ?_
  refine Cw.region ?_
  refine Lw.r rfl (R.mv (v := v0_) rfl) (Lw.r rfl (R.mv (v := v1_) rfl) (Lw.r rfl (R.mv (v := v2_) rfl) ?_))
  obtain ⟨z1, e2, hm⟩ := ob hm
  refine Lw.t rfl (T.call rfl (p54 (K := [0])  h0 h1 h2 e2)) ?_
  rintro _ _ ⟨W3, rfl, l3, rfl⟩
  have a4 : Le LL _ _ := l3.nil
  refine Lw.r rfl (R.not rfl) ?_
  refine Lw.nil ?_
  refine Cw.cond (b := (!z1)) rfl (fun hc5 => ?_) (fun hc5 => ?_)
  · replace hm := bt hm hc5
    refine Cw.seq ?_
    refine Cw.region ?_
    refine Lw.r rfl (R.as (v := vI (-1)) rfl) ?_
    refine Lw.nil ?_
    cases hm
    exact Cw.ret (ret1 rfl (Res.mk a4 rfl))
  · replace hm := bf hm hc5
    refine Cw.skip ?_
    refine Cw.seq ?_
    refine Cw.region ?_
    refine Lw.r rfl (R.as (v := vI 0) rfl) ?_
    refine Lw.nil ?_
    refine Cw.seq ?_
    refine Cw.seq ?_
    refine Cw.region ?_
    refine Lw.r rfl (R.mv (v := v0_) rfl) (Lw.r rfl (R.mv (v := v1_) rfl) (Lw.r rfl (R.mv (v := v2_) rfl) ?_))
    have s6 := h0.ul a4
    have s7 := h1.ul a4
    have s8 := h2.ul a4
    obtain ⟨z9, e10, hm⟩ := ob hm
    refine Lw.t rfl (T.call rfl (p69 (K := [0]) (k0 := 2) s6 s7 s8 e10)) ?_
    rintro v0_11 _ ⟨W11, rfl, l11, ⟨_, rfl, f11_0⟩⟩
    have a12 : Le LL _ _ := l11.nil
    refine Lw.r rfl (lenR (xs := z9) f11_0.rd rfl) (Lw.r rfl (R.mv (v := vI 0) rfl) ?_)
    refine Lw.nil ?_
    refine Cw.block ?_
    obtain ⟨K17, hK17, hm⟩ := jn_e hm
    refine Cw.loop 20 28 [7, 9, 20] (fun m l w => ∃ (y13 : Int) (y15 : Int) (j14 : Value) (W16 : CW), W16.w = w ∧ Le [3] W11 W16 ∧ l = [vI y13, j14, vI y15] ∧ Vm.impl_MergeClash_l1 z9 K17 m y13 y15 = some r) (((z9.length : Int) - 0).toNat + 1) ⟨0, 0, undef, W11, rfl, Le.refl _ _, rfl, hm⟩ ?_
    rintro m18 _ _ σ ⟨y13, y15, j14, W16, rfl, l16, rfl, hm⟩
    obtain _ | m18 := m18
    · cases hm
    unfold Vm.impl_MergeClash_l1 at hm
    have a19 : Le LL _ _ := l16.sub rfl
    have o20 := f11_0.up l16 rfl
    refine Cw.seq ?_
    refine Cw.region ?_
    refine Lw.r rfl (R.lt rfl rfl) ?_
    refine Lw.nil ?_
    refine Cw.seq ?_
    refine Cw.cond (b := decide ((y15 : Int) < ((z9.length : Int) : Int))) rfl (fun hc21 => ?_) (fun hc21 => ?_)
    · replace hm := bt hm hc21
      refine Cw.skip ?_
      obtain ⟨K25, hK25, hm⟩ := jn_e hm
      refine Cw.join 22 27 [7, 9] (fun l w => ∃ (y22 : Int) (j23 : Value) (W24 : CW), W24.w = w ∧ Le [3] W16 W24 ∧ l = [vI y22, j23] ∧ K25 y22 = some r) ?_ ?_
      · rintro _ _ σ ⟨y22, j23, W24, rfl, l24, rfl, hm⟩
        rw [hK25] at hm
        have a26 : Le LL _ _ := l24.sub rfl
        have o27 := o20.up l24 rfl
        refine Cw.region ?_
        refine Lw.r rfl (R.add rfl rfl) (Lw.r rfl (R.mv (v := vI (w64 (y15 + 1))) rfl) ?_)
        refine Lw.nil ?_
        refine ⟨?_, m18, Nat.lt_succ_self m18, ⟨y22, w64 (y15 + 1), j23, W24, rfl, (l16.trans l24), rfl, hm⟩⟩
        iterate 2 (refine Agree.up rfl ?_)
        iterate 2 (refine Agree.up rfl ?_)
        refine Agree.ov0 rfl ?_
        iterate 1 (refine Agree.up rfl ?_)
        iterate 3 (refine Agree.up rfl ?_)
        exact Agree.base
      · refine Cw.block ?_
        refine Cw.seq ?_
        refine Cw.region ?_
        obtain ⟨u28, e29, hm⟩ := ob hm
        refine Lw.r rfl (R.ix (α := Part) o20.rd e29 rfl rfl rfl) ?_
        obtain ⟨x30, c31, _, r32⟩ := (o20.rd.at_ e29).cells
        obtain ⟨v33, v35, v37, v39, rfl, r34, r36, r38, r40⟩ := Part.split r32
        refine Lw.r rfl (R.lda c31 rfl rfl) ?_
        refine Lw.t rfl (T.alloc 3 (cs := [vB false, .slice none 0 0, .slice none 0 0, .slice none 0 0, .slice none 0 0]) rfl) ?_
        rintro _ _ ⟨g41, W41, rfl, rfl, l41, b41⟩
        have a42 : Le LL _ _ := l41.nil
        have o43 := o20.up l41 rfl
        refine Lw.u (T.sta (vs := [vB u28.Clash, v33, v35, v37, v39]) b41 rfl rfl (oc_cons rfl (oc_cons r34.oc (oc_cons r36.oc (oc_cons r38.oc (oc_cons r40.oc oc_nil))))) rfl rfl) ?_
        rintro _ _ ⟨W44, rfl, l44, b44⟩
        have a45 : Le LL _ _ := l44.sub rfl
        have o46 := o43.up l44 rfl
        refine Lw.nil ?_
        refine Cw.seq ?_
        refine Cw.region ?_
        refine Lw.r rfl (R.fa rfl) (Lw.r rfl (R.ld (v := vB u28.Clash) rfl rfl (b44.cell rfl)) ?_)
        refine Lw.nil ?_
        refine Cw.cond (b := u28.Clash) rfl (fun hc47 => ?_) (fun hc47 => ?_)
        · replace hm := bt hm hc47
          refine Cw.region ?_
          refine Lw.r rfl (R.mv (v := vI y13) rfl) (Lw.r rfl (R.add rfl rfl) (Lw.r rfl (R.as (v := vI (w64 (y13 + 1))) rfl) ?_))
          refine Lw.nil ?_
          refine ⟨?_, ⟨w64 (y13 + 1), ptr (bx g41), W44, rfl, ((l41.sub rfl).trans l44), rfl, hm⟩⟩
          iterate 8 (refine Agree.up rfl ?_)
          exact Agree.refl _
        · replace hm := bf hm hc47
          refine Cw.skip ?_
          refine ⟨?_, ⟨y13, ptr (bx g41), W44, rfl, ((l41.sub rfl).trans l44), rfl, hm⟩⟩
          iterate 5 (refine Agree.up rfl ?_)
          exact Agree.refl _
    · replace hm := bf hm hc21
      refine Cw.exit ?_
      rw [hK17] at hm
      refine Cw.seq ?_
      refine Cw.region ?_
      refine Lw.r rfl (R.mv (v := vI y13) rfl) (Lw.r rfl (R.as (v := vI y13) rfl) ?_)
      refine Lw.nil ?_
      cases hm
      exact Cw.ret (ret1 rfl (Res.mk (a4.trans (a12.trans a19)) rfl))

theorem p36 {W : CW} {K : List Nat} {x0 : List Str} {v0_ : Value} {x1 : List Str} {v1_ : Value} {x2 : List Str} {v2_ : Value} {r : Int} (h0 : Rd W K [v0_] x0) (h1 : Rd W K [v1_] x1) (h2 : Rd W K [v2_] x2) (hm : Vm.impl_MergeClash x0 x1 x2 = some r) : CallR Try.prog 36 [v0_, v1_, v2_].toArray W.w (Res W [] fun W' v => v = vI r) :=
  (c36 (V := W.view K []) (h0.view _) (h1.view _) (h2.view _) hm).ad (fk 0) fun _ _ e => e

theorem c73 {V : CW} {x0 : Vm.Part} {v0_1_ : Value} {v0_2_ : Value} {v0_3_ : Value} {v0_4_ : Value} {x1 : List Vm.Memo} {g1_ : Nat} {v1_ : Value} {r : (List Str) × Bool} (h0 : Rd V [0] [vB x0.Clash, v0_1_, v0_2_, v0_3_, v0_4_] x0) (hB1 : Bx V 2 g1_ [v1_]) (h1 : Rd V [0] [v1_] x1) (hm : Vm.impl_MemoText_c1 x0 x1 = some r) : CallR Try.prog 73 [.agg [vB x0.Clash, v0_1_, v0_2_, v0_3_, v0_4_].toArray, ptr (bx g1_)].toArray V.w (Res V LL fun Wf v => ∃ (u0 : Value), v = .tuple [u0, vB r.2].toArray ∧ Rd Wf [0] [u0] r.1 ∧ Bx Wf 2 g1_ [v1_]) := by
  unfold Vm.impl_MemoText_c1 at hm
  obtain ⟨w0_0, w0_1, w0_2, w0_3, he0, h0_1, h0_2, h0_3, h0_4⟩ := Part.split h0
  simp only [List.cons.injEq, and_true, true_and] at he0
  obtain ⟨rfl, rfl, rfl, rfl⟩ := he0
  obtain ⟨W0, hW0⟩ : ∃ W, W = V := ⟨V, rfl⟩
  subst hW0
  refine CallR.of Try.func73 rfl rfl rfl rfl ?_
  refine Cw.seq ?_
  refine Cw.region ?_
  refine Lw.t rfl (T.box 3 (v := .agg [vB x0.Clash, v0_1_, v0_2_, v0_3_, v0_4_].toArray) (cs := [vB x0.Clash, v0_1_, v0_2_, v0_3_, v0_4_]) rfl rfl) ?_
  rintro _ _ ⟨g1, W1, rfl, rfl, l1, b1⟩
  have a2 : Le LL _ _ := l1.nil
  have b3 := hB1.up l1 rfl
  refine Lw.r rfl (R.as (v := .slice none 0 0) rfl) (Lw.r rfl (R.as (v := vB false) rfl) ?_)
  refine Lw.nil ?_
  refine Cw.seq ?_
  refine Cw.region ?_
  refine Lw.r rfl (R.ld (v := v1_) rfl rfl (b3.cell0 rfl)) (Lw.r rfl (R.lda (cs := [vB x0.Clash, v0_1_, v0_2_, v0_3_, v0_4_]) b1.cells rfl rfl) ?_)
  have s4 := h1.ul a2
  have s5 := h0_1.ul a2
  have s6 := h0_2.ul a2
  have s7 := h0_3.ul a2
  have s8 := h0_4.ul a2
  obtain ⟨z9, e10, hm⟩ := ob hm
  refine Lw.t rfl (T.call rfl (p70 (K := [0])  s4 (Part.rd (K := [0]) x0.Clash x0.Lines x0.Old x0.One x0.Two s5 s6 s7 s8) e10)) ?_
  rintro _ _ ⟨W11, rfl, l11, ⟨v0_11, rfl, f11_0⟩⟩
  have s12 := f11_0.sub (M := [0]) rfl
  have a13 : Le LL _ _ := l11.nil
  have b14 := b3.up l11 rfl
  have b15 := b1.up l11 rfl
  refine Lw.r rfl (R.ext (vs := [v0_11, vB z9.2]) (v := v0_11) rfl rfl) (Lw.r rfl (R.ext (vs := [v0_11, vB z9.2]) (v := vB z9.2) rfl rfl) (Lw.r rfl (R.as (v := v0_11) rfl) (Lw.r rfl (R.as (v := vB z9.2) rfl) ?_)))
  refine Lw.nil ?_
  cases hm
  exact Cw.ret (ret2 rfl rfl (Res.mk (a2.trans a13) ⟨v0_11, rfl, s12, b14⟩))

theorem p73 {W : CW} {K : List Nat} {x0 : Vm.Part} {v0_1_ : Value} {v0_2_ : Value} {v0_3_ : Value} {v0_4_ : Value} {x1 : List Vm.Memo} {g1_ : Nat} {v1_ : Value} {c0 : Nat} {r : (List Str) × Bool} (h0 : Rd W K [vB x0.Clash, v0_1_, v0_2_, v0_3_, v0_4_] x0) (hB1 : Bx W c0 g1_ [v1_]) (h1 : Rd W K [v1_] x1) (hJ : okJ K [c0] = true) (hm : Vm.impl_MemoText_c1 x0 x1 = some r) : CallR Try.prog 73 [.agg [vB x0.Clash, v0_1_, v0_2_, v0_3_, v0_4_].toArray, ptr (bx g1_)].toArray W.w (Res W [c0] fun W' v => ∃ (u0 : Value), v = .tuple [u0, vB r.2].toArray ∧ Rd W' (0 :: K) [u0] r.1 ∧ Bx W' c0 g1_ [v1_]) :=
  CallR.adJ (J := [c0]) (fun c => bif Nat.beq c 0 then 0 else bif Nat.beq c 2 then c0 else 0) (c73 (V := W.view K [c0]) (h0.view _) (hB1.viewJ 0 hJ) (h1.view _) hm) fun _ _ ⟨u0, e, f0, f1⟩ => ⟨u0, e, f0.back rfl, Bx.backJ 0 f1 rfl⟩

theorem c72_73 {V : CW} {x0 : List Str} {v0_ : Value} {x1 : List Str} {v1_ : Value} {x2 : List Str} {v2_ : Value} {x4 : List Vm.Memo} {g4_ : Nat} {v4_ : Value} {r : (List Str) × Bool} (h0 : Rd V [0] [v0_] x0) (h1 : Rd V [0] [v1_] x1) (h2 : Rd V [0] [v2_] x2) (hB4 : Bx V 2 g4_ [v4_]) (h4 : Rd V [0] [v4_] x4) (hm : Vm.impl_merged_at73 x0 x1 x2 x4 = some r) : CallR Try.prog 72 [v0_, v1_, v2_, .func (.func 73) #[] [ptr (bx g4_)].toArray].toArray V.w (Res V LL fun Wf v => ∃ (u0 : Value), v = .tuple [u0, vB r.2].toArray ∧ OwS Wf [31] [] [u0] r.1 ∧ Bx Wf 2 g4_ [v4_]) := by
  unfold Vm.impl_merged_at73 at hm
  obtain ⟨W0, hW0⟩ : ∃ W, W = V := ⟨V, rfl⟩
  subst hW0
  refine CallR.of Try.func72 rfl rfl rfl rfl ?_
  refine Cw.seq ?_
  refine Cw.region ?_
  refine Lw.r rfl (R.as (v := .slice none 0 0) rfl) (Lw.r rfl (R.as (v := vB false) rfl) ?_)
  refine Lw.nil ?_
  refine Cw.seq ?_
  refine Cw.seq ?_
  refine Cw.region ?_
  refine Lw.r rfl (R.mv (v := v0_) rfl) (Lw.r rfl (R.mv (v := v1_) rfl) (Lw.r rfl (R.mv (v := v2_) rfl) ?_))
  obtain ⟨z1, e2, hm⟩ := ob hm
  refine Lw.t rfl (T.call rfl (p54 (K := [0])  h0 h1 h2 e2)) ?_
  rintro _ _ ⟨W3, rfl, l3, rfl⟩
  have a4 : Le LL _ _ := l3.nil
  have b5 := hB4.up l3 rfl
  refine Lw.r rfl (R.not rfl) ?_
  refine Lw.nil ?_
  refine Cw.cond (b := (!z1)) rfl (fun hc6 => ?_) (fun hc6 => ?_)
  · replace hm := bt hm hc6
    refine Cw.seq ?_
    refine Cw.region ?_
    refine Lw.r rfl (R.as (v := .slice none 0 0) rfl) (Lw.r rfl (R.as (v := vB false) rfl) ?_)
    refine Lw.nil ?_
    cases hm
    exact Cw.ret (ret2 rfl rfl (Res.mk a4 ⟨.slice none 0 0, rfl, (owsN []).sub rfl rfl, b5⟩))
  · replace hm := bf hm hc6
    refine Cw.skip ?_
    refine Cw.seq ?_
    refine Cw.region ?_
    refine Lw.r rfl (R.as (v := .slice none 0 0) rfl) ?_
    refine Lw.nil ?_
    refine Cw.seq ?_
    refine Cw.seq ?_
    refine Cw.region ?_
    refine Lw.r rfl (R.mv (v := v0_) rfl) (Lw.r rfl (R.mv (v := v1_) rfl) (Lw.r rfl (R.mv (v := v2_) rfl) ?_))
    have s7 := h0.ul a4
    have s8 := h1.ul a4
    have s9 := h2.ul a4
    obtain ⟨z10, e11, hm⟩ := ob hm
    refine Lw.t rfl (T.call rfl (p69 (K := [0]) (k0 := 3) s7 s8 s9 e11)) ?_
    rintro v0_12 _ ⟨W12, rfl, l12, ⟨_, rfl, f12_0⟩⟩
    have a13 : Le LL _ _ := l12.nil
    have b14 := b5.up l12 rfl
    refine Lw.r rfl (lenR (xs := z10) f12_0.rd rfl) (Lw.r rfl (R.mv (v := vI 0) rfl) ?_)
    refine Lw.nil ?_
    refine Cw.block ?_
    obtain ⟨W15, ew15, l15, dj15⟩ := dyeE _ 3
    rw [← ew15]
    have s16 : Rd (α := List Vm.Part) W15 [0] [v0_12] z10 := by rw [dj15]; exact (f12_0.rd.dye 3).sub (M := [0]) rfl
    have a17 : Le LL _ _ := l15.sub rfl
    have b18 := b14.up l15 rfl
    obtain ⟨K33, hK33, hm⟩ := jn_e hm
    refine Cw.loop 26 46 [8, 9, 10, 12, 13, 14, 15, 26] (fun m l w => ∃ (y19 : List Str) (y22 : Bool) (y23 : List Str) (y30 : Int) (v20 v24 j26 j27 j28 j29 : Value) (W32 : CW), W32.w = w ∧ Le [2, 7, 8] W15 W32 ∧ l = [v20, vB y22, v24, j26, j27, j28, j29, vI y30] ∧ Ow W32 6 [] [v20] y19 ∧ Ow W32 7 [] [v24] y23 ∧ Bx W32 2 g4_ [v4_] ∧ Vm.impl_merged_at73_l1 x4 z10 K33 m y19 y22 y23 y30 = some r) (((z10.length : Int) - 0).toNat + 1) ⟨([] : List Str), false, ([] : List Str), 0, .slice none 0 0, .slice none 0 0, undef, undef, undef, undef, W15, rfl, Le.refl _ _, rfl, owN 6 [], owN 7 [], b18, hm⟩ ?_
    rintro m34 _ _ σ ⟨y19, y22, y23, y30, v20, v24, j26, j27, j28, j29, W32, rfl, l32, rfl, o21, o25, b31, hm⟩
    obtain _ | m34 := m34
    · cases hm
    unfold Vm.impl_merged_at73_l1 at hm
    have a35 : Le LL _ _ := l32.sub rfl
    refine Cw.seq ?_
    refine Cw.region ?_
    refine Lw.r rfl (R.lt rfl rfl) ?_
    refine Lw.nil ?_
    refine Cw.seq ?_
    refine Cw.cond (b := decide ((y30 : Int) < ((z10.length : Int) : Int))) rfl (fun hc36 => ?_) (fun hc36 => ?_)
    · replace hm := bt hm hc36
      refine Cw.skip ?_
      refine Cw.seq ?_
      refine Cw.block ?_
      refine Cw.seq ?_
      refine Cw.region ?_
      obtain ⟨u37, e38, hm⟩ := ob hm
      have s39 := s16.ul a35
      refine Lw.r rfl (R.ix (α := Part) s39 e38 rfl rfl rfl) ?_
      obtain ⟨x40, c41, _, r42⟩ := (s39.at_ e38).cells
      obtain ⟨v43, v45, v47, v49, rfl, r44, r46, r48, r50⟩ := Part.split r42
      refine Lw.r rfl (R.lda c41 rfl rfl) ?_
      refine Lw.t rfl (T.alloc 8 (cs := [vB false, .slice none 0 0, .slice none 0 0, .slice none 0 0, .slice none 0 0]) rfl) ?_
      rintro _ _ ⟨g51, W51, rfl, rfl, l51, b51⟩
      have a52 : Le LL _ _ := l51.nil
      have o53 := o21.up l51 rfl
      have o54 := o25.up l51 rfl
      have b55 := b31.up l51 rfl
      refine Lw.u (T.sta (vs := [vB u37.Clash, v43, v45, v47, v49]) b51 rfl rfl (oc_cons rfl (oc_cons r44.oc (oc_cons r46.oc (oc_cons r48.oc (oc_cons r50.oc oc_nil))))) rfl rfl) ?_
      rintro _ _ ⟨W56, rfl, l56, b56⟩
      have a57 : Le LL _ _ := l56.sub rfl
      have o58 := o53.up l56 rfl
      have o59 := o54.up l56 rfl
      have b60 := b55.up l56 rfl
      refine Lw.nil ?_
      refine Cw.seq ?_
      refine Cw.region ?_
      refine Lw.r rfl (R.fa rfl) (Lw.r rfl (R.ld (v := v43) rfl rfl (b56.cell rfl)) (Lw.r rfl (R.as (v := v43) rfl) ?_))
      refine Lw.nil ?_
      obtain ⟨K72, hK72, hm⟩ := jn_e hm
      refine Cw.join 32 42 [8, 9, 13, 14, 15] (fun l w => ∃ (y61 : List Str) (y64 : Bool) (y65 : List Str) (v62 v66 j68 j69 : Value) (W71 : CW), W71.w = w ∧ Le [2] W56 W71 ∧ l = [v62, vB y64, v66, j68, j69] ∧ Ow W71 6 [] [v62] y61 ∧ Rd W71 [0] [v66] y65 ∧ Bx W71 2 g4_ [v4_] ∧ K72 y61 y64 y65 = some r) ?_ ?_
      · rintro _ _ σ ⟨y61, y64, y65, v62, v66, j68, j69, W71, rfl, l71, rfl, o63, r67, b70, hm⟩
        rw [hK72] at hm
        have a73 : Le LL _ _ := l71.sub rfl
        have o74 := o59.up l71 rfl
        have b75 := b56.up l71 rfl
        refine Cw.region ?_
        refine Lw.r rfl (R.mv (v := v24) rfl) (Lw.r rfl (R.mv (v := v66) rfl) ?_)
        obtain ⟨q76, e77, hm⟩ := ob hm
        refine Lw.t rfl (T.appP (α := Str) o74 r67 rfl rfl e77) ?_
        rintro v78 _ ⟨W78, rfl, l78, o78⟩
        have a79 : Le LL _ _ := l78.sub rfl
        have o80 := o63.up l78 rfl
        have b81 := b70.up l78 rfl
        have b82 := b75.up l78 rfl
        refine Lw.r rfl (R.as (v := v78) rfl) ?_
        refine Lw.nil ?_
        refine Cw.region ?_
        refine Lw.r rfl (R.add rfl rfl) (Lw.r rfl (R.mv (v := vI (w64 (y30 + 1))) rfl) ?_)
        refine Lw.nil ?_
        refine ⟨?_, m34, Nat.lt_succ_self m34, ⟨y61, y64, q76, w64 (y30 + 1), v62, v78, ptr (bx g51), v66, j68, j69, W78, rfl, (l32.trans ((l51.sub rfl).trans ((l56.sub rfl).trans ((l71.sub rfl).trans (l78.sub rfl))))), rfl, o80, o78, b81, hm⟩⟩
        iterate 6 (refine Agree.up rfl ?_)
        iterate 5 (refine Agree.up rfl ?_)
        refine Agree.ov0 rfl ?_
        iterate 7 (refine Agree.up rfl ?_)
        iterate 8 (refine Agree.up rfl ?_)
        exact Agree.base
      · refine Cw.seq ?_
        refine Cw.region ?_
        refine Lw.r rfl (R.fa rfl) (Lw.r rfl (R.ld (v := vB u37.Clash) rfl rfl (b56.cell rfl)) ?_)
        refine Lw.nil ?_
        refine Cw.cond (b := u37.Clash) rfl (fun hc83 => ?_) (fun hc83 => ?_)
        · replace hm := bt hm hc83
          refine Cw.seq ?_
          refine Cw.region ?_
          refine Lw.r rfl (R.mv (v := .func (.func 73) #[] [ptr (bx g4_)].toArray) rfl) (Lw.r rfl (R.lda (cs := [vB u37.Clash, v43, v45, v47, v49]) b56.cells rfl rfl) ?_)
          have s84 := r44.ul (a52.trans a57)
          have s85 := r46.ul (a52.trans a57)
          have s86 := r48.ul (a52.trans a57)
          have s87 := r50.ul (a52.trans a57)
          have s88 := h4.ul (a4.trans (a13.trans (a17.trans (a35.trans (a52.trans a57)))))
          obtain ⟨z89, e90, hm⟩ := ob hm
          refine Lw.t rfl (T.callV (vals := [.agg [vB u37.Clash, v43, v45, v47, v49].toArray]) (caps := [ptr (bx g4_)]) rfl rfl (p73 (K := [0])  (c0 := 2) (x1 := x4) (Part.rd (K := [0]) u37.Clash u37.Lines u37.Old u37.One u37.Two s84 s85 s86 s87) b60 s88 rfl e90)) ?_
          rintro _ _ ⟨W91, rfl, l91, ⟨v0_91, rfl, f91_0, f91_1⟩⟩
          have s92 := f91_0.sub (M := [0]) rfl
          have a93 : Le LL _ _ := l91.sub rfl
          have o94 := o58.up l91 rfl
          have o95 := o59.up l91 rfl
          have b96 := b56.up l91 rfl
          refine Lw.r rfl (R.mv (v := .tuple [v0_91, vB z89.2].toArray) rfl) (Lw.r rfl (R.ext (vs := [v0_91, vB z89.2]) (v := v0_91) rfl rfl) (Lw.r rfl (R.ext (vs := [v0_91, vB z89.2]) (v := vB z89.2) rfl rfl) (Lw.r rfl (R.as (v := v0_91) rfl) (Lw.r rfl (R.as (v := vB z89.2) rfl) ?_))))
          refine Lw.nil ?_
          refine Cw.seq ?_
          refine Cw.seq ?_
          refine Cw.region ?_
          refine Lw.r rfl (R.mv (v := vB z89.2) rfl) (Lw.r rfl (R.not rfl) ?_)
          refine Lw.nil ?_
          refine Cw.cond (b := (!z89.2)) rfl (fun hc97 => ?_) (fun hc97 => ?_)
          · replace hm := bt hm hc97
            refine Cw.seq ?_
            refine Cw.region ?_
            refine Lw.r rfl (R.as (v := .slice none 0 0) rfl) (Lw.r rfl (R.as (v := vB false) rfl) ?_)
            refine Lw.nil ?_
            cases hm
            exact Cw.ret (ret2 rfl rfl (Res.mk (a4.trans (a13.trans (a17.trans (a35.trans (a52.trans (a57.trans a93)))))) ⟨.slice none 0 0, rfl, (owsN []).sub rfl rfl, f91_1⟩))
          · replace hm := bf hm hc97
            refine Cw.skip ?_
            refine Cw.region ?_
            refine Lw.r rfl (R.mv (v := v0_91) rfl) (Lw.r rfl (R.as (v := v0_91) rfl) ?_)
            refine Lw.nil ?_
            refine ⟨?_, ⟨y19, y22, z89.1, v20, v0_91, v0_91, vB z89.2, W91, rfl, l91, rfl, o94, s92, f91_1, hm⟩⟩
            iterate 14 (refine Agree.up rfl ?_)
            exact Agree.refl _
        · replace hm := bf hm hc83
          refine Cw.skip ?_
          have s98 := r44.ul (a52.trans a57)
          refine ⟨?_, ⟨y19, y22, u37.Lines, v20, v43, j28, j29, W56, rfl, Le.refl _ _, rfl, o58, s98, b60, hm⟩⟩
          iterate 2 (refine Agree.up rfl ?_)
          exact Agree.refl _
    · replace hm := bf hm hc36
      refine Cw.exit ?_
      rw [hK33] at hm
      refine Cw.seq ?_
      refine Cw.seq ?_
      refine Cw.region ?_
      refine Lw.r rfl (R.mv (v := v24) rfl) ?_
      obtain ⟨z99, e100, hm⟩ := ob hm
      refine Lw.t rfl (T.call rfl (p55 (K := [7])  o25.rd e100)) ?_
      rintro _ _ ⟨W101, rfl, l101, rfl⟩
      have a102 : Le LL _ _ := l101.nil
      have o103 := o21.up l101 rfl
      have o104 := o25.up l101 rfl
      have b105 := b31.up l101 rfl
      refine Lw.r rfl (R.not rfl) ?_
      refine Lw.nil ?_
      refine Cw.cond (b := (!z99)) rfl (fun hc106 => ?_) (fun hc106 => ?_)
      · replace hm := bt hm hc106
        refine Cw.seq ?_
        refine Cw.region ?_
        refine Lw.r rfl (R.as (v := .slice none 0 0) rfl) (Lw.r rfl (R.as (v := vB false) rfl) ?_)
        refine Lw.nil ?_
        cases hm
        exact Cw.ret (ret2 rfl rfl (Res.mk (a4.trans (a13.trans (a17.trans (a35.trans a102)))) ⟨.slice none 0 0, rfl, (owsN []).sub rfl rfl, b105⟩))
      · replace hm := bf hm hc106
        refine Cw.skip ?_
        refine Cw.seq ?_
        refine Cw.region ?_
        refine Lw.r rfl (R.mv (v := v24) rfl) (Lw.r rfl (R.as (v := v24) rfl) (Lw.r rfl (R.as (v := vB true) rfl) ?_))
        refine Lw.nil ?_
        obtain ⟨W107, ew107, l107, o107⟩ := o104.dyeO 31
        have a108 : Le LL _ _ := l107.sub rfl
        have o109 := o103.up l107 rfl
        have b110 := b105.up l107 rfl
        cases hm
        rw [← ew107]
        exact Cw.ret (ret2 rfl rfl (Res.mk (a4.trans (a13.trans (a17.trans (a35.trans (a102.trans a108))))) ⟨v24, rfl, o107.s, b110⟩))

theorem p72_73 {W : CW} {K : List Nat} {x0 : List Str} {v0_ : Value} {x1 : List Str} {v1_ : Value} {x2 : List Str} {v2_ : Value} {x4 : List Vm.Memo} {g4_ : Nat} {v4_ : Value} {k0 : Nat} {c0 : Nat} {r : (List Str) × Bool} (h0 : Rd W K [v0_] x0) (h1 : Rd W K [v1_] x1) (h2 : Rd W K [v2_] x2) (hB4 : Bx W c0 g4_ [v4_]) (h4 : Rd W K [v4_] x4) (hJ : okJ K [c0] = true) (hm : Vm.impl_merged_at73 x0 x1 x2 x4 = some r) : CallR Try.prog 72 [v0_, v1_, v2_, .func (.func 73) #[] [ptr (bx g4_)].toArray].toArray W.w (Res W [c0] fun W' v => ∃ (u0 : Value), v = .tuple [u0, vB r.2].toArray ∧ Ow W' k0 [] [u0] r.1 ∧ Bx W' c0 g4_ [v4_]) :=
  CallR.adJ (J := [c0]) (fun c => bif Nat.beq c 0 then 0 else bif Nat.beq c 2 then c0 else bif Nat.beq c 31 then k0 else 0) (c72_73 (V := W.view K [c0]) (h0.view _) (h1.view _) (h2.view _) (hB4.viewJ 0 hJ) (h4.view _) hm) fun _ _ ⟨u0, e, f0, f1⟩ => ⟨u0, e, f0.one1.backN rfl, Bx.backJ 0 f1 rfl⟩

theorem c37 {V : CW} {x0 : List Vm.Memo} {v0_ : Value} {x1 : List Str} {v1_ : Value} {x2 : List Str} {v2_ : Value} {x3 : List Str} {v3_ : Value} {r : (List Str) × Bool} (h0 : Rd V [0] [v0_] x0) (h1 : Rd V [0] [v1_] x1) (h2 : Rd V [0] [v2_] x2) (h3 : Rd V [0] [v3_] x3) (hm : Vm.impl_MemoText x0 x1 x2 x3 = some r) : CallR Try.prog 37 [v0_, v1_, v2_, v3_].toArray V.w (Res V LL fun Wf v => ∃ (u0 : Value), v = .tuple [u0, vB r.2].toArray ∧ OwS Wf LL [] [u0] r.1) := by
  unfold Vm.impl_MemoText at hm
  obtain ⟨W0, hW0⟩ : ∃ W, W = V := ⟨V, rfl⟩
  subst hW0
  refine CallR.of Try.func37 rfl rfl rfl rfl ?_
  refine Cw.seq ?_
  refine Cw.region ?_
  refine Lw.t rfl (T.box 2 (v := v0_) (cs := [v0_]) rfl (cells_one h0.oc)) ?_
  rintro _ _ ⟨g1, W1, rfl, rfl, l1, b1⟩
  have a2 : Le LL _ _ := l1.nil
  refine Lw.r rfl (R.as (v := .slice none 0 0) rfl) (Lw.r rfl (R.as (v := vB false) rfl) ?_)
  refine Lw.nil ?_
  refine Cw.seq ?_
  refine Cw.seq ?_
  refine Cw.region ?_
  refine Lw.r rfl (R.ld (v := v0_) rfl rfl (b1.cell0 rfl)) ?_
  have s3 := h0.ul a2
  obtain ⟨z4, e5, hm⟩ := ob hm
  refine Lw.t rfl (T.call rfl (p15 (K := [0])  s3 e5)) ?_
  rintro _ _ ⟨W6, rfl, l6, rfl⟩
  have a7 : Le LL _ _ := l6.nil
  have b8 := b1.up l6 rfl
  refine Lw.r rfl (R.not rfl) ?_
  refine Lw.nil ?_
  refine Cw.cond (b := (!z4)) rfl (fun hc9 => ?_) (fun hc9 => ?_)
  · replace hm := bt hm hc9
    refine Cw.seq ?_
    refine Cw.region ?_
    refine Lw.r rfl (R.as (v := .slice none 0 0) rfl) (Lw.r rfl (R.as (v := vB false) rfl) ?_)
    refine Lw.nil ?_
    cases hm
    exact Cw.ret (ret2 rfl rfl (Res.mk (a2.trans a7) ⟨.slice none 0 0, rfl, (owsN []).sub rfl rfl⟩))
  · replace hm := bf hm hc9
    refine Cw.skip ?_
    refine Cw.seq ?_
    refine Cw.region ?_
    refine Lw.r rfl (R.mv (v := v1_) rfl) (Lw.r rfl (R.mv (v := v2_) rfl) (Lw.r rfl (R.mv (v := v3_) rfl) (Lw.r rfl (R.mkF (vs := [ptr (bx g1)]) rfl) ?_)))
    have s10 := h1.ul (a2.trans a7)
    have s11 := h2.ul (a2.trans a7)
    have s12 := h3.ul (a2.trans a7)
    have s13 := h0.ul (a2.trans a7)
    obtain ⟨z14, e15, hm⟩ := ob hm
    refine Lw.t rfl (T.call rfl (p72_73 (K := [0]) (k0 := 3) (c0 := 2) (x4 := x0) s10 s11 s12 b8 s13 rfl e15)) ?_
    rintro _ _ ⟨W16, rfl, l16, ⟨v0_16, rfl, f16_0, f16_1⟩⟩
    have a17 : Le LL _ _ := l16.sub rfl
    refine Lw.r rfl (R.ext (vs := [v0_16, vB z14.2]) (v := v0_16) rfl rfl) (Lw.r rfl (R.ext (vs := [v0_16, vB z14.2]) (v := vB z14.2) rfl rfl) (Lw.r rfl (R.as (v := v0_16) rfl) (Lw.r rfl (R.as (v := vB z14.2) rfl) ?_)))
    refine Lw.nil ?_
    cases hm
    exact Cw.ret (ret2 rfl rfl (Res.mk (a2.trans (a7.trans a17)) ⟨v0_16, rfl, f16_0.s.sub rfl rfl⟩))

theorem p37 {W : CW} {K : List Nat} {x0 : List Vm.Memo} {v0_ : Value} {x1 : List Str} {v1_ : Value} {x2 : List Str} {v2_ : Value} {x3 : List Str} {v3_ : Value} {k0 : Nat} {r : (List Str) × Bool} (h0 : Rd W K [v0_] x0) (h1 : Rd W K [v1_] x1) (h2 : Rd W K [v2_] x2) (h3 : Rd W K [v3_] x3) (hm : Vm.impl_MemoText x0 x1 x2 x3 = some r) : CallR Try.prog 37 [v0_, v1_, v2_, v3_].toArray W.w (Res W [] fun W' v => ∃ (u0 : Value), v = .tuple [u0, vB r.2].toArray ∧ Ow W' k0 [] [u0] r.1) :=
  (c37 (V := W.view K []) (h0.view _) (h1.view _) (h2.view _) (h3.view _) hm).ad (fk k0) fun _ _ ⟨u0, e, f0⟩ => ⟨u0, e, f0.back (fk_LL _)⟩

theorem c74 {V : CW} {x0 : Int} {x1 : Int} {x2 : Int} {r : Bool}  (hm : Vm.impl_within x0 x1 x2 = some r) : CallR Try.prog 74 [vI x0, vI x1, vI x2].toArray V.w (Res V LL fun Wf v => v = vB r) := by
  unfold Vm.impl_within at hm
  obtain ⟨W0, hW0⟩ : ∃ W, W = V := ⟨V, rfl⟩
  subst hW0
  refine CallR.of Try.func74 rfl rfl rfl rfl ?_
  refine Cw.seq ?_
  refine Cw.region ?_
  refine Lw.r rfl (R.as (v := vB false) rfl) ?_
  refine Lw.nil ?_
  obtain ⟨K3, hK3, hm⟩ := jn_e hm
  refine Cw.join 7 14 [6] (fun l w => ∃ (y1 : Bool) (W2 : CW), W2.w = w ∧ Le [] W0 W2 ∧ l = [vB y1] ∧ K3 y1 = some r) ?_ ?_
  · rintro _ _ σ ⟨y1, W2, rfl, l2, rfl, hm⟩
    rw [hK3] at hm
    have a4 : Le LL _ _ := l2.nil
    cases hm
    exact Cw.ret (ret1 rfl (Res.mk a4 rfl))
  · refine Cw.region ?_
    refine Lw.r rfl (R.mv (v := vI x1) rfl) (Lw.r rfl (R.mv (v := vI x0) rfl) (Lw.r rfl (R.le rfl rfl) (Lw.r rfl (R.mv (v := vB (decide ((x1 : Int) ≤ (x0 : Int)))) rfl) ?_)))
    refine bsplit (decide ((x1 : Int) ≤ (x0 : Int))) (fun hc5 => ?_) (fun hc5 => ?_)
    · replace hm := bt hm hc5
      refine Lw.want' hc5 rfl rfl rfl rfl ?_
      refine Lw.r rfl (R.mv (v := vI x0) rfl) ?_
      refine Lw.want' hc5 rfl rfl rfl rfl ?_
      refine Lw.r rfl (R.mv (v := vI x2) rfl) ?_
      refine Lw.want' hc5 rfl rfl rfl rfl ?_
      refine Lw.r rfl (R.le rfl rfl) (Lw.r rfl (R.pk hc5 rfl (v := vB (decide ((x0 : Int) ≤ (x2 : Int)))) rfl) (Lw.r rfl (R.as (v := vB (decide ((x0 : Int) ≤ (x2 : Int)))) rfl) ?_))
      refine Lw.nil ?_
      refine ⟨?_, ⟨decide ((x0 : Int) ≤ (x2 : Int)), W0, rfl, Le.refl _ _, rfl, hm⟩⟩
      iterate 9 (refine Agree.up rfl ?_)
      exact Agree.refl _
    · replace hm := bf hm hc5
      refine Lw.pass' hc5 rfl rfl rfl rfl rfl rfl rfl ?_
      refine Lw.pass' hc5 rfl rfl rfl rfl rfl rfl rfl ?_
      refine Lw.pass' hc5 rfl rfl rfl rfl rfl rfl rfl ?_
      refine Lw.r rfl (R.pk hc5 rfl (v := vB false) rfl) (Lw.r rfl (R.as (v := vB false) rfl) ?_)
      refine Lw.nil ?_
      refine ⟨?_, ⟨false, W0, rfl, Le.refl _ _, rfl, hm⟩⟩
      iterate 9 (refine Agree.up rfl ?_)
      exact Agree.refl _

theorem p74 {W : CW} {K : List Nat} {x0 : Int} {x1 : Int} {x2 : Int} {r : Bool}  (hm : Vm.impl_within x0 x1 x2 = some r) : CallR Try.prog 74 [vI x0, vI x1, vI x2].toArray W.w (Res W [] fun W' v => v = vB r) :=
  (c74 (V := W.view K [])  hm).ad (fk 0) fun _ _ e => e

theorem c75 {V : CW} {x0 : Vm.Part} {v0_1_ : Value} {v0_2_ : Value} {v0_3_ : Value} {v0_4_ : Value} {x1 : Int} {g1_ : Nat} {r : (List Str) × Bool} (h0 : Rd V [0] [vB x0.Clash, v0_1_, v0_2_, v0_3_, v0_4_] x0) (hB1 : Bx V 2 g1_ [vI x1]) (hm : Vm.impl_MergeSide_c1 x0 x1 = some r) : CallR Try.prog 75 [.agg [vB x0.Clash, v0_1_, v0_2_, v0_3_, v0_4_].toArray, ptr (bx g1_)].toArray V.w (Res V LL fun Wf v => ∃ (u0 : Value), v = .tuple [u0, vB r.2].toArray ∧ Rd Wf [0] [u0] r.1 ∧ Bx Wf 2 g1_ [vI x1]) := by
  unfold Vm.impl_MergeSide_c1 at hm
  obtain ⟨w0_0, w0_1, w0_2, w0_3, he0, h0_1, h0_2, h0_3, h0_4⟩ := Part.split h0
  simp only [List.cons.injEq, and_true, true_and] at he0
  obtain ⟨rfl, rfl, rfl, rfl⟩ := he0
  obtain ⟨W0, hW0⟩ : ∃ W, W = V := ⟨V, rfl⟩
  subst hW0
  refine CallR.of Try.func75 rfl rfl rfl rfl ?_
  refine Cw.seq ?_
  refine Cw.region ?_
  refine Lw.t rfl (T.box 3 (v := .agg [vB x0.Clash, v0_1_, v0_2_, v0_3_, v0_4_].toArray) (cs := [vB x0.Clash, v0_1_, v0_2_, v0_3_, v0_4_]) rfl rfl) ?_
  rintro _ _ ⟨g1, W1, rfl, rfl, l1, b1⟩
  have a2 : Le LL _ _ := l1.nil
  have b3 := hB1.up l1 rfl
  refine Lw.r rfl (R.as (v := .slice none 0 0) rfl) (Lw.r rfl (R.as (v := vB false) rfl) ?_)
  refine Lw.nil ?_
  refine Cw.seq ?_
  refine Cw.region ?_
  refine Lw.r rfl (R.fa rfl) (Lw.r rfl (R.ld (v := v0_2_) rfl rfl (b1.cell rfl)) (Lw.r rfl (R.fa rfl) (Lw.r rfl (R.ld (v := v0_3_) rfl rfl (b1.cell rfl)) (Lw.r rfl (R.fa rfl) (Lw.r rfl (R.ld (v := v0_4_) rfl rfl (b1.cell rfl)) ?_)))))
  have s4 := h0_2.ul a2
  have s5 := h0_3.ul a2
  have s6 := h0_4.ul a2
  refine Lw.t rfl (T.bsS (α := Sh (List Str)) (xs := [x0.Old, x0.One, x0.Two]) 4 [0] (W := W1) [v0_2_, v0_3_, v0_4_] (bsE [[v0_2_], [v0_3_], [v0_4_]] (mapc h0_2.oc (mapc h0_3.oc (mapc h0_4.oc mapn))) (Each.cons (s4.sh1) (Each.cons (s5.sh1) (Each.cons (s6.sh1) Each.nil)))) rfl) ?_
  rintro v7 _ ⟨W7, rfl, l7, o7⟩
  have a8 : Le LL _ _ := l7.nil
  have b9 := b3.up l7 rfl
  have b10 := b1.up l7 rfl
  refine Lw.r rfl (R.ld (v := vI x1) rfl rfl (b9.cell0 rfl)) ?_
  obtain ⟨u11, e12, hm⟩ := ob hm
  have s13 : Rd (α := List (List Str)) W7 [4, 0] [v7] ([x0.Old, x0.One, x0.Two] : List (List Str)) := Ow.rdSh o7
  refine Lw.r rfl (R.ix (α := List Str) s13 e12 rfl rfl rfl) ?_
  obtain ⟨v14, c15, r16⟩ := (s13.at_ e12).cell rfl
  refine Lw.r rfl (R.ld rfl rfl c15) (Lw.r rfl (R.as (v := v14) rfl) (Lw.r rfl (R.as (v := vB true) rfl) ?_))
  refine Lw.nil ?_
  obtain ⟨W17, ew17, l17, dj17⟩ := dyeE _ 4
  have s18 : Rd W17 [0] [v14] u11 := by rw [dj17]; exact (r16.dye 4).sub (M := [0]) rfl
  have s19 : Rd (α := List (List Str)) W17 [0] [v7] ([x0.Old, x0.One, x0.Two] : List (List Str)) := by rw [dj17]; exact (o7.rd.dye 4).sub (M := [0]) rfl
  have a20 : Le LL _ _ := l17.sub rfl
  have b21 := b9.up l17 rfl
  have b22 := b10.up l17 rfl
  cases hm
  rw [← ew17]
  exact Cw.ret (ret2 rfl rfl (Res.mk (a2.trans (a8.trans a20)) ⟨v14, rfl, s18, b21⟩))

theorem p75 {W : CW} {K : List Nat} {x0 : Vm.Part} {v0_1_ : Value} {v0_2_ : Value} {v0_3_ : Value} {v0_4_ : Value} {x1 : Int} {g1_ : Nat} {c0 : Nat} {r : (List Str) × Bool} (h0 : Rd W K [vB x0.Clash, v0_1_, v0_2_, v0_3_, v0_4_] x0) (hB1 : Bx W c0 g1_ [vI x1]) (hJ : okJ K [c0] = true) (hm : Vm.impl_MergeSide_c1 x0 x1 = some r) : CallR Try.prog 75 [.agg [vB x0.Clash, v0_1_, v0_2_, v0_3_, v0_4_].toArray, ptr (bx g1_)].toArray W.w (Res W [c0] fun W' v => ∃ (u0 : Value), v = .tuple [u0, vB r.2].toArray ∧ Rd W' (0 :: K) [u0] r.1 ∧ Bx W' c0 g1_ [vI x1]) :=
  CallR.adJ (J := [c0]) (fun c => bif Nat.beq c 0 then 0 else bif Nat.beq c 2 then c0 else 0) (c75 (V := W.view K [c0]) (h0.view _) (hB1.viewJ 0 hJ) hm) fun _ _ ⟨u0, e, f0, f1⟩ => ⟨u0, e, f0.back rfl, Bx.backJ 0 f1 rfl⟩

theorem c72_75 {V : CW} {x0 : List Str} {v0_ : Value} {x1 : List Str} {v1_ : Value} {x2 : List Str} {v2_ : Value} {x4 : Int} {g4_ : Nat} {r : (List Str) × Bool} (h0 : Rd V [0] [v0_] x0) (h1 : Rd V [0] [v1_] x1) (h2 : Rd V [0] [v2_] x2) (hB4 : Bx V 2 g4_ [vI x4]) (hm : Vm.impl_merged_at75 x0 x1 x2 x4 = some r) : CallR Try.prog 72 [v0_, v1_, v2_, .func (.func 75) #[] [ptr (bx g4_)].toArray].toArray V.w (Res V LL fun Wf v => ∃ (u0 : Value), v = .tuple [u0, vB r.2].toArray ∧ OwS Wf [31] [] [u0] r.1 ∧ Bx Wf 2 g4_ [vI x4]) := by
  unfold Vm.impl_merged_at75 at hm
  obtain ⟨W0, hW0⟩ : ∃ W, W = V := ⟨V, rfl⟩
  subst hW0
  refine CallR.of Try.func72 rfl rfl rfl rfl ?_
  refine Cw.seq ?_
  refine Cw.region ?_
  refine Lw.r rfl (R.as (v := .slice none 0 0) rfl) (Lw.r rfl (R.as (v := vB false) rfl) ?_)
  refine Lw.nil ?_
  refine Cw.seq ?_
  refine Cw.seq ?_
  refine Cw.region ?_
  refine Lw.r rfl (R.mv (v := v0_) rfl) (Lw.r rfl (R.mv (v := v1_) rfl) (Lw.r rfl (R.mv (v := v2_) rfl) ?_))
  obtain ⟨z1, e2, hm⟩ := ob hm
  refine Lw.t rfl (T.call rfl (p54 (K := [0])  h0 h1 h2 e2)) ?_
  rintro _ _ ⟨W3, rfl, l3, rfl⟩
  have a4 : Le LL _ _ := l3.nil
  have b5 := hB4.up l3 rfl
  refine Lw.r rfl (R.not rfl) ?_
  refine Lw.nil ?_
  refine Cw.cond (b := (!z1)) rfl (fun hc6 => ?_) (fun hc6 => ?_)
  · replace hm := bt hm hc6
    refine Cw.seq ?_
    refine Cw.region ?_
    refine Lw.r rfl (R.as (v := .slice none 0 0) rfl) (Lw.r rfl (R.as (v := vB false) rfl) ?_)
    refine Lw.nil ?_
    cases hm
    exact Cw.ret (ret2 rfl rfl (Res.mk a4 ⟨.slice none 0 0, rfl, (owsN []).sub rfl rfl, b5⟩))
  · replace hm := bf hm hc6
    refine Cw.skip ?_
    refine Cw.seq ?_
    refine Cw.region ?_
    refine Lw.r rfl (R.as (v := .slice none 0 0) rfl) ?_
    refine Lw.nil ?_
    refine Cw.seq ?_
    refine Cw.seq ?_
    refine Cw.region ?_
    refine Lw.r rfl (R.mv (v := v0_) rfl) (Lw.r rfl (R.mv (v := v1_) rfl) (Lw.r rfl (R.mv (v := v2_) rfl) ?_))
    have s7 := h0.ul a4
    have s8 := h1.ul a4
    have s9 := h2.ul a4
    obtain ⟨z10, e11, hm⟩ := ob hm
    refine Lw.t rfl (T.call rfl (p69 (K := [0]) (k0 := 3) s7 s8 s9 e11)) ?_
    rintro v0_12 _ ⟨W12, rfl, l12, ⟨_, rfl, f12_0⟩⟩
    have a13 : Le LL _ _ := l12.nil
    have b14 := b5.up l12 rfl
    refine Lw.r rfl (lenR (xs := z10) f12_0.rd rfl) (Lw.r rfl (R.mv (v := vI 0) rfl) ?_)
    refine Lw.nil ?_
    refine Cw.block ?_
    obtain ⟨W15, ew15, l15, dj15⟩ := dyeE _ 3
    rw [← ew15]
    have s16 : Rd (α := List Vm.Part) W15 [0] [v0_12] z10 := by rw [dj15]; exact (f12_0.rd.dye 3).sub (M := [0]) rfl
    have a17 : Le LL _ _ := l15.sub rfl
    have b18 := b14.up l15 rfl
    obtain ⟨K33, hK33, hm⟩ := jn_e hm
    refine Cw.loop 26 46 [8, 9, 10, 12, 13, 14, 15, 26] (fun m l w => ∃ (y19 : List Str) (y22 : Bool) (y23 : List Str) (y30 : Int) (v20 v24 j26 j27 j28 j29 : Value) (W32 : CW), W32.w = w ∧ Le [2, 7, 8] W15 W32 ∧ l = [v20, vB y22, v24, j26, j27, j28, j29, vI y30] ∧ Ow W32 6 [] [v20] y19 ∧ Ow W32 7 [] [v24] y23 ∧ Bx W32 2 g4_ [vI x4] ∧ Vm.impl_merged_at75_l1 x4 z10 K33 m y19 y22 y23 y30 = some r) (((z10.length : Int) - 0).toNat + 1) ⟨([] : List Str), false, ([] : List Str), 0, .slice none 0 0, .slice none 0 0, undef, undef, undef, undef, W15, rfl, Le.refl _ _, rfl, owN 6 [], owN 7 [], b18, hm⟩ ?_
    rintro m34 _ _ σ ⟨y19, y22, y23, y30, v20, v24, j26, j27, j28, j29, W32, rfl, l32, rfl, o21, o25, b31, hm⟩
    obtain _ | m34 := m34
    · cases hm
    unfold Vm.impl_merged_at75_l1 at hm
    have a35 : Le LL _ _ := l32.sub rfl
    refine Cw.seq ?_
    refine Cw.region ?_
    refine Lw.r rfl (R.lt rfl rfl) ?_
    refine Lw.nil ?_
    refine Cw.seq ?_
    refine Cw.cond (b := decide ((y30 : Int) < ((z10.length : Int) : Int))) rfl (fun hc36 => ?_) (fun hc36 => ?_)
    · replace hm := bt hm hc36
      refine Cw.skip ?_
      refine Cw.seq ?_
      refine Cw.block ?_
      refine Cw.seq ?_
      refine Cw.region ?_
      obtain ⟨u37, e38, hm⟩ := ob hm
      have s39 := s16.ul a35
      refine Lw.r rfl (R.ix (α := Part) s39 e38 rfl rfl rfl) ?_
      obtain ⟨x40, c41, _, r42⟩ := (s39.at_ e38).cells
      obtain ⟨v43, v45, v47, v49, rfl, r44, r46, r48, r50⟩ := Part.split r42
      refine Lw.r rfl (R.lda c41 rfl rfl) ?_
      refine Lw.t rfl (T.alloc 8 (cs := [vB false, .slice none 0 0, .slice none 0 0, .slice none 0 0, .slice none 0 0]) rfl) ?_
      rintro _ _ ⟨g51, W51, rfl, rfl, l51, b51⟩
      have a52 : Le LL _ _ := l51.nil
      have o53 := o21.up l51 rfl
      have o54 := o25.up l51 rfl
      have b55 := b31.up l51 rfl
      refine Lw.u (T.sta (vs := [vB u37.Clash, v43, v45, v47, v49]) b51 rfl rfl (oc_cons rfl (oc_cons r44.oc (oc_cons r46.oc (oc_cons r48.oc (oc_cons r50.oc oc_nil))))) rfl rfl) ?_
      rintro _ _ ⟨W56, rfl, l56, b56⟩
      have a57 : Le LL _ _ := l56.sub rfl
      have o58 := o53.up l56 rfl
      have o59 := o54.up l56 rfl
      have b60 := b55.up l56 rfl
      refine Lw.nil ?_
      refine Cw.seq ?_
      refine Cw.region ?_
      refine Lw.r rfl (R.fa rfl) (Lw.r rfl (R.ld (v := v43) rfl rfl (b56.cell rfl)) (Lw.r rfl (R.as (v := v43) rfl) ?_))
      refine Lw.nil ?_
      obtain ⟨K72, hK72, hm⟩ := jn_e hm
      refine Cw.join 32 42 [8, 9, 13, 14, 15] (fun l w => ∃ (y61 : List Str) (y64 : Bool) (y65 : List Str) (v62 v66 j68 j69 : Value) (W71 : CW), W71.w = w ∧ Le [2] W56 W71 ∧ l = [v62, vB y64, v66, j68, j69] ∧ Ow W71 6 [] [v62] y61 ∧ Rd W71 [0] [v66] y65 ∧ Bx W71 2 g4_ [vI x4] ∧ K72 y61 y64 y65 = some r) ?_ ?_
      · rintro _ _ σ ⟨y61, y64, y65, v62, v66, j68, j69, W71, rfl, l71, rfl, o63, r67, b70, hm⟩
        rw [hK72] at hm
        have a73 : Le LL _ _ := l71.sub rfl
        have o74 := o59.up l71 rfl
        have b75 := b56.up l71 rfl
        refine Cw.region ?_
        refine Lw.r rfl (R.mv (v := v24) rfl) (Lw.r rfl (R.mv (v := v66) rfl) ?_)
        obtain ⟨q76, e77, hm⟩ := ob hm
        refine Lw.t rfl (T.appP (α := Str) o74 r67 rfl rfl e77) ?_
        rintro v78 _ ⟨W78, rfl, l78, o78⟩
        have a79 : Le LL _ _ := l78.sub rfl
        have o80 := o63.up l78 rfl
        have b81 := b70.up l78 rfl
        have b82 := b75.up l78 rfl
        refine Lw.r rfl (R.as (v := v78) rfl) ?_
        refine Lw.nil ?_
        refine Cw.region ?_
        refine Lw.r rfl (R.add rfl rfl) (Lw.r rfl (R.mv (v := vI (w64 (y30 + 1))) rfl) ?_)
        refine Lw.nil ?_
        refine ⟨?_, m34, Nat.lt_succ_self m34, ⟨y61, y64, q76, w64 (y30 + 1), v62, v78, ptr (bx g51), v66, j68, j69, W78, rfl, (l32.trans ((l51.sub rfl).trans ((l56.sub rfl).trans ((l71.sub rfl).trans (l78.sub rfl))))), rfl, o80, o78, b81, hm⟩⟩
        iterate 6 (refine Agree.up rfl ?_)
        iterate 5 (refine Agree.up rfl ?_)
        refine Agree.ov0 rfl ?_
        iterate 7 (refine Agree.up rfl ?_)
        iterate 8 (refine Agree.up rfl ?_)
        exact Agree.base
      · refine Cw.seq ?_
        refine Cw.region ?_
        refine Lw.r rfl (R.fa rfl) (Lw.r rfl (R.ld (v := vB u37.Clash) rfl rfl (b56.cell rfl)) ?_)
        refine Lw.nil ?_
        refine Cw.cond (b := u37.Clash) rfl (fun hc83 => ?_) (fun hc83 => ?_)
        · replace hm := bt hm hc83
          refine Cw.seq ?_
          refine Cw.region ?_
          refine Lw.r rfl (R.mv (v := .func (.func 75) #[] [ptr (bx g4_)].toArray) rfl) (Lw.r rfl (R.lda (cs := [vB u37.Clash, v43, v45, v47, v49]) b56.cells rfl rfl) ?_)
          have s84 := r44.ul (a52.trans a57)
          have s85 := r46.ul (a52.trans a57)
          have s86 := r48.ul (a52.trans a57)
          have s87 := r50.ul (a52.trans a57)
          obtain ⟨z88, e89, hm⟩ := ob hm
          refine Lw.t rfl (T.callV (vals := [.agg [vB u37.Clash, v43, v45, v47, v49].toArray]) (caps := [ptr (bx g4_)]) rfl rfl (p75 (K := [0])  (c0 := 2) (x1 := x4) (Part.rd (K := [0]) u37.Clash u37.Lines u37.Old u37.One u37.Two s84 s85 s86 s87) b60 rfl e89)) ?_
          rintro _ _ ⟨W90, rfl, l90, ⟨v0_90, rfl, f90_0, f90_1⟩⟩
          have s91 := f90_0.sub (M := [0]) rfl
          have a92 : Le LL _ _ := l90.sub rfl
          have o93 := o58.up l90 rfl
          have o94 := o59.up l90 rfl
          have b95 := b56.up l90 rfl
          refine Lw.r rfl (R.mv (v := .tuple [v0_90, vB z88.2].toArray) rfl) (Lw.r rfl (R.ext (vs := [v0_90, vB z88.2]) (v := v0_90) rfl rfl) (Lw.r rfl (R.ext (vs := [v0_90, vB z88.2]) (v := vB z88.2) rfl rfl) (Lw.r rfl (R.as (v := v0_90) rfl) (Lw.r rfl (R.as (v := vB z88.2) rfl) ?_))))
          refine Lw.nil ?_
          refine Cw.seq ?_
          refine Cw.seq ?_
          refine Cw.region ?_
          refine Lw.r rfl (R.mv (v := vB z88.2) rfl) (Lw.r rfl (R.not rfl) ?_)
          refine Lw.nil ?_
          refine Cw.cond (b := (!z88.2)) rfl (fun hc96 => ?_) (fun hc96 => ?_)
          · replace hm := bt hm hc96
            refine Cw.seq ?_
            refine Cw.region ?_
            refine Lw.r rfl (R.as (v := .slice none 0 0) rfl) (Lw.r rfl (R.as (v := vB false) rfl) ?_)
            refine Lw.nil ?_
            cases hm
            exact Cw.ret (ret2 rfl rfl (Res.mk (a4.trans (a13.trans (a17.trans (a35.trans (a52.trans (a57.trans a92)))))) ⟨.slice none 0 0, rfl, (owsN []).sub rfl rfl, f90_1⟩))
          · replace hm := bf hm hc96
            refine Cw.skip ?_
            refine Cw.region ?_
            refine Lw.r rfl (R.mv (v := v0_90) rfl) (Lw.r rfl (R.as (v := v0_90) rfl) ?_)
            refine Lw.nil ?_
            refine ⟨?_, ⟨y19, y22, z88.1, v20, v0_90, v0_90, vB z88.2, W90, rfl, l90, rfl, o93, s91, f90_1, hm⟩⟩
            iterate 14 (refine Agree.up rfl ?_)
            exact Agree.refl _
        · replace hm := bf hm hc83
          refine Cw.skip ?_
          have s97 := r44.ul (a52.trans a57)
          refine ⟨?_, ⟨y19, y22, u37.Lines, v20, v43, j28, j29, W56, rfl, Le.refl _ _, rfl, o58, s97, b60, hm⟩⟩
          iterate 2 (refine Agree.up rfl ?_)
          exact Agree.refl _
    · replace hm := bf hm hc36
      refine Cw.exit ?_
      rw [hK33] at hm
      refine Cw.seq ?_
      refine Cw.seq ?_
      refine Cw.region ?_
      refine Lw.r rfl (R.mv (v := v24) rfl) ?_
      obtain ⟨z98, e99, hm⟩ := ob hm
      refine Lw.t rfl (T.call rfl (p55 (K := [7])  o25.rd e99)) ?_
      rintro _ _ ⟨W100, rfl, l100, rfl⟩
      have a101 : Le LL _ _ := l100.nil
      have o102 := o21.up l100 rfl
      have o103 := o25.up l100 rfl
      have b104 := b31.up l100 rfl
      refine Lw.r rfl (R.not rfl) ?_
      refine Lw.nil ?_
      refine Cw.cond (b := (!z98)) rfl (fun hc105 => ?_) (fun hc105 => ?_)
      · replace hm := bt hm hc105
        refine Cw.seq ?_
        refine Cw.region ?_
        refine Lw.r rfl (R.as (v := .slice none 0 0) rfl) (Lw.r rfl (R.as (v := vB false) rfl) ?_)
        refine Lw.nil ?_
        cases hm
        exact Cw.ret (ret2 rfl rfl (Res.mk (a4.trans (a13.trans (a17.trans (a35.trans a101)))) ⟨.slice none 0 0, rfl, (owsN []).sub rfl rfl, b104⟩))
      · replace hm := bf hm hc105
        refine Cw.skip ?_
        refine Cw.seq ?_
        refine Cw.region ?_
        refine Lw.r rfl (R.mv (v := v24) rfl) (Lw.r rfl (R.as (v := v24) rfl) (Lw.r rfl (R.as (v := vB true) rfl) ?_))
        refine Lw.nil ?_
        obtain ⟨W106, ew106, l106, o106⟩ := o103.dyeO 31
        have a107 : Le LL _ _ := l106.sub rfl
        have o108 := o102.up l106 rfl
        have b109 := b104.up l106 rfl
        cases hm
        rw [← ew106]
        exact Cw.ret (ret2 rfl rfl (Res.mk (a4.trans (a13.trans (a17.trans (a35.trans (a101.trans a107))))) ⟨v24, rfl, o106.s, b109⟩))

theorem p72_75 {W : CW} {K : List Nat} {x0 : List Str} {v0_ : Value} {x1 : List Str} {v1_ : Value} {x2 : List Str} {v2_ : Value} {x4 : Int} {g4_ : Nat} {k0 : Nat} {c0 : Nat} {r : (List Str) × Bool} (h0 : Rd W K [v0_] x0) (h1 : Rd W K [v1_] x1) (h2 : Rd W K [v2_] x2) (hB4 : Bx W c0 g4_ [vI x4]) (hJ : okJ K [c0] = true) (hm : Vm.impl_merged_at75 x0 x1 x2 x4 = some r) : CallR Try.prog 72 [v0_, v1_, v2_, .func (.func 75) #[] [ptr (bx g4_)].toArray].toArray W.w (Res W [c0] fun W' v => ∃ (u0 : Value), v = .tuple [u0, vB r.2].toArray ∧ Ow W' k0 [] [u0] r.1 ∧ Bx W' c0 g4_ [vI x4]) :=
  CallR.adJ (J := [c0]) (fun c => bif Nat.beq c 0 then 0 else bif Nat.beq c 2 then c0 else bif Nat.beq c 31 then k0 else 0) (c72_75 (V := W.view K [c0]) (h0.view _) (h1.view _) (h2.view _) (hB4.viewJ 0 hJ) hm) fun _ _ ⟨u0, e, f0, f1⟩ => ⟨u0, e, f0.one1.backN rfl, Bx.backJ 0 f1 rfl⟩

theorem c38 {V : CW} {x0 : List Str} {v0_ : Value} {x1 : List Str} {v1_ : Value} {x2 : List Str} {v2_ : Value} {x3 : Int} {r : (List Str) × Bool} (h0 : Rd V [0] [v0_] x0) (h1 : Rd V [0] [v1_] x1) (h2 : Rd V [0] [v2_] x2) (hm : Vm.impl_MergeSide x0 x1 x2 x3 = some r) : CallR Try.prog 38 [v0_, v1_, v2_, vI x3].toArray V.w (Res V LL fun Wf v => ∃ (u0 : Value), v = .tuple [u0, vB r.2].toArray ∧ OwS Wf LL [] [u0] r.1) := by
  unfold Vm.impl_MergeSide at hm
  obtain ⟨W0, hW0⟩ : ∃ W, W = V := ⟨V, rfl⟩
  subst hW0
  refine CallR.of Try.func38 rfl rfl rfl rfl ?_
  refine Cw.seq ?_
  refine Cw.region ?_
  refine Lw.t rfl (T.box 2 (v := vI x3) (cs := [vI x3]) rfl rfl) ?_
  rintro _ _ ⟨g1, W1, rfl, rfl, l1, b1⟩
  have a2 : Le LL _ _ := l1.nil
  refine Lw.r rfl (R.as (v := .slice none 0 0) rfl) (Lw.r rfl (R.as (v := vB false) rfl) ?_)
  refine Lw.nil ?_
  refine Cw.seq ?_
  refine Cw.seq ?_
  refine Cw.region ?_
  refine Lw.r rfl (R.ld (v := vI x3) rfl rfl (b1.cell0 rfl)) ?_
  obtain ⟨z3, e4, hm⟩ := ob hm
  refine Lw.t rfl (T.call rfl (p74 (K := [0])   e4)) ?_
  rintro _ _ ⟨W5, rfl, l5, rfl⟩
  have a6 : Le LL _ _ := l5.nil
  have b7 := b1.up l5 rfl
  refine Lw.r rfl (R.not rfl) ?_
  refine Lw.nil ?_
  refine Cw.cond (b := (!z3)) rfl (fun hc8 => ?_) (fun hc8 => ?_)
  · replace hm := bt hm hc8
    refine Cw.seq ?_
    refine Cw.region ?_
    refine Lw.r rfl (R.as (v := .slice none 0 0) rfl) (Lw.r rfl (R.as (v := vB false) rfl) ?_)
    refine Lw.nil ?_
    cases hm
    exact Cw.ret (ret2 rfl rfl (Res.mk (a2.trans a6) ⟨.slice none 0 0, rfl, (owsN []).sub rfl rfl⟩))
  · replace hm := bf hm hc8
    refine Cw.skip ?_
    refine Cw.seq ?_
    refine Cw.region ?_
    refine Lw.r rfl (R.mv (v := v0_) rfl) (Lw.r rfl (R.mv (v := v1_) rfl) (Lw.r rfl (R.mv (v := v2_) rfl) (Lw.r rfl (R.mkF (vs := [ptr (bx g1)]) rfl) ?_)))
    have s9 := h0.ul (a2.trans a6)
    have s10 := h1.ul (a2.trans a6)
    have s11 := h2.ul (a2.trans a6)
    obtain ⟨z12, e13, hm⟩ := ob hm
    refine Lw.t rfl (T.call rfl (p72_75 (K := [0]) (k0 := 3) (c0 := 2) (x4 := x3) s9 s10 s11 b7 rfl e13)) ?_
    rintro _ _ ⟨W14, rfl, l14, ⟨v0_14, rfl, f14_0, f14_1⟩⟩
    have a15 : Le LL _ _ := l14.sub rfl
    refine Lw.r rfl (R.ext (vs := [v0_14, vB z12.2]) (v := v0_14) rfl rfl) (Lw.r rfl (R.ext (vs := [v0_14, vB z12.2]) (v := vB z12.2) rfl rfl) (Lw.r rfl (R.as (v := v0_14) rfl) (Lw.r rfl (R.as (v := vB z12.2) rfl) ?_)))
    refine Lw.nil ?_
    cases hm
    exact Cw.ret (ret2 rfl rfl (Res.mk (a2.trans (a6.trans a15)) ⟨v0_14, rfl, f14_0.s.sub rfl rfl⟩))

theorem p38 {W : CW} {K : List Nat} {x0 : List Str} {v0_ : Value} {x1 : List Str} {v1_ : Value} {x2 : List Str} {v2_ : Value} {x3 : Int} {k0 : Nat} {r : (List Str) × Bool} (h0 : Rd W K [v0_] x0) (h1 : Rd W K [v1_] x1) (h2 : Rd W K [v2_] x2) (hm : Vm.impl_MergeSide x0 x1 x2 x3 = some r) : CallR Try.prog 38 [v0_, v1_, v2_, vI x3].toArray W.w (Res W [] fun W' v => ∃ (u0 : Value), v = .tuple [u0, vB r.2].toArray ∧ Ow W' k0 [] [u0] r.1) :=
  (c38 (V := W.view K []) (h0.view _) (h1.view _) (h2.view _) hm).ad (fk k0) fun _ _ ⟨u0, e, f0⟩ => ⟨u0, e, f0.back (fk_LL _)⟩

theorem c7 {V : CW} {x0 : List Byte} {v0_ : Value} {r : Bool} (h0 : Rd V [0] [v0_] x0) (hm : Vm.laws_FnMemoDone x0 = some r) : CallR Try.prog 7 [v0_].toArray V.w (Res V LL fun Wf v => v = vB r) := by
  unfold Vm.laws_FnMemoDone at hm
  obtain ⟨W0, hW0⟩ : ∃ W, W = V := ⟨V, rfl⟩
  subst hW0
  refine CallR.of Try.func7 rfl rfl rfl rfl ?_
  refine Cw.seq ?_
  refine Cw.region ?_
  refine Lw.r rfl (R.as (v := vB false) rfl) ?_
  refine Lw.nil ?_
  refine Cw.seq ?_
  refine Cw.seq ?_
  refine Cw.region ?_
  refine Lw.r rfl (R.mv (v := v0_) rfl) (Lw.r rfl (lenR (xs := x0) h0 rfl) (Lw.r rfl (R.gt rfl rfl) ?_))
  refine Lw.nil ?_
  refine Cw.cond (b := decide ((1048576 : Int) < ((x0.length : Int) : Int))) rfl (fun hc1 => ?_) (fun hc1 => ?_)
  · replace hm := bt hm hc1
    refine Cw.seq ?_
    refine Cw.region ?_
    refine Lw.r rfl (R.as (v := vB true) rfl) ?_
    refine Lw.nil ?_
    cases hm
    exact Cw.ret (ret1 rfl (Res.mk (Le.refl _ _) rfl))
  · replace hm := bf hm hc1
    refine Cw.skip ?_
    refine Cw.seq ?_
    refine Cw.region ?_
    refine Lw.r rfl (R.mv (v := v0_) rfl) ?_
    obtain ⟨z2, e3, hm⟩ := ob hm
    refine Lw.t rfl (T.call rfl (p32 (K := [0]) (k0 := 2) h0 e3)) ?_
    rintro _ _ ⟨W4, rfl, l4, ⟨v0_4, v1_4, v2_4, rfl, f4_0, f4_1, f4_2⟩⟩
    have s5 := f4_1.sub (M := [0]) rfl
    have s6 := f4_2.sub (M := [0]) rfl
    have a7 : Le LL _ _ := l4.nil
    refine Lw.r rfl (R.mv (v := .tuple [v0_4, v1_4, v2_4].toArray) rfl) (Lw.r rfl (R.ext (vs := [v0_4, v1_4, v2_4]) (v := v0_4) rfl rfl) (Lw.r rfl (R.ext (vs := [v0_4, v1_4, v2_4]) (v := v1_4) rfl rfl) (Lw.r rfl (R.ext (vs := [v0_4, v1_4, v2_4]) (v := v2_4) rfl rfl) (Lw.r rfl (R.as (v := v0_4) rfl) (Lw.r rfl (R.as (v := v1_4) rfl) (Lw.r rfl (R.as (v := v2_4) rfl) ?_))))))
    refine Lw.nil ?_
    refine Cw.seq ?_
    refine Cw.region ?_
    refine Lw.r rfl (R.mv (v := v0_4) rfl) (Lw.r rfl (R.mv (v := v1_4) rfl) (Lw.r rfl (R.mv (v := v2_4) rfl) ?_))
    obtain ⟨z8, e9, hm⟩ := ob hm
    refine Lw.t rfl (T.call rfl (p33 (K := [0, 2]) (k0 := 3) (f4_0.rd.sub (M := [0, 2]) rfl) (s5.sub (M := [0, 2]) rfl) (s6.sub (M := [0, 2]) rfl) e9)) ?_
    rintro v0_10 _ ⟨W10, rfl, l10, ⟨_, rfl, f10_0⟩⟩
    have a11 : Le LL _ _ := l10.nil
    have o12 := f4_0.up l10 rfl
    refine Lw.r rfl (R.as (v := v0_10) rfl) ?_
    refine Lw.nil ?_
    refine Cw.seq ?_
    obtain ⟨K15, hK15, hm⟩ := jn_e hm
    refine Cw.join 28 41 [41] (fun l w => ∃ (y13 : Bool) (W14 : CW), W14.w = w ∧ Le [] W10 W14 ∧ l = [vB y13] ∧ K15 y13 = some r) ?_ ?_
    · rintro _ _ σ ⟨y13, W14, rfl, l14, rfl, hm⟩
      rw [hK15] at hm
      have a16 : Le LL _ _ := l14.nil
      have o17 := o12.up l14 rfl
      have o18 := f10_0.up l14 rfl
      refine Cw.cond (b := y13) rfl (fun hc19 => ?_) (fun hc19 => ?_)
      · replace hm := bt hm hc19
        refine Cw.seq ?_
        refine Cw.region ?_
        refine Lw.r rfl (R.mv (v := v0_10) rfl) (Lw.r rfl (R.mv (v := v0_4) rfl) (Lw.r rfl (R.mv (v := v1_4) rfl) (Lw.r rfl (R.mv (v := v2_4) rfl) ?_)))
        have s20 := s5.ul (a11.trans a16)
        have s21 := s6.ul (a11.trans a16)
        obtain ⟨z22, e23, hm⟩ := ob hm
        refine Lw.t rfl (T.call rfl (p35 (K := [0, 2]) (k0 := 4) (o17.rd.sub (M := [0, 2]) rfl) (s20.sub (M := [0, 2]) rfl) (s21.sub (M := [0, 2]) rfl) e23)) ?_
        rintro v0_24 _ ⟨W24, rfl, l24, ⟨_, rfl, f24_0⟩⟩
        have a25 : Le LL _ _ := l24.nil
        have o26 := o17.up l24 rfl
        have o27 := o18.up l24 rfl
        obtain ⟨z28, e29, hm⟩ := ob hm
        refine Lw.t rfl (T.call rfl (p34 (K := [3, 4])  (o27.rd.sub (M := [3, 4]) rfl) (f24_0.rd.sub (M := [3, 4]) rfl) e29)) ?_
        rintro _ _ ⟨W30, rfl, l30, rfl⟩
        have a31 : Le LL _ _ := l30.nil
        have o32 := o26.up l30 rfl
        have o33 := o27.up l30 rfl
        have o34 := f24_0.up l30 rfl
        refine Lw.r rfl (R.as (v := vB z28) rfl) ?_
        refine Lw.nil ?_
        cases hm
        exact Cw.ret (ret1 rfl (Res.mk (a7.trans (a11.trans (a16.trans (a25.trans a31)))) rfl))
      · replace hm := bf hm hc19
        refine Cw.skip ?_
        refine Cw.seq ?_
        refine Cw.region ?_
        refine Lw.t rfl (T.lit0 (α := Memo) 5 []) ?_
        rintro v35 _ ⟨W35, rfl, l35, o35⟩
        have a36 : Le LL _ _ := l35.nil
        have o37 := o17.up l35 rfl
        have o38 := o18.up l35 rfl
        refine Lw.r rfl (R.as (v := v35) rfl) ?_
        refine Lw.nil ?_
        refine Cw.seq ?_
        refine Cw.seq ?_
        refine Cw.region ?_
        refine Lw.r rfl (R.as (v := vI 0) rfl) ?_
        refine Lw.nil ?_
        refine Cw.block ?_
        obtain ⟨K47, hK47, hm⟩ := jn_e hm
        refine Cw.loop 49 95 [2, 7, 8, 9, 10] (fun m l w => ∃ (y39 : Bool) (y40 : List Vm.Memo) (y43 : Int) (v41 j44 j45 : Value) (W46 : CW), W46.w = w ∧ Le [6] W35 W46 ∧ l = [vB y39, v41, vI y43, j44, j45] ∧ Ow W46 5 [] [v41] y40 ∧ Vm.laws_FnMemoDone_l1 z8 K47 m y39 y40 y43 = some r) (((z8.length : Int) - 0).toNat + 1) ⟨false, ([] : List Memo), 0, v35, undef, undef, W35, rfl, Le.refl _ _, rfl, o35, hm⟩ ?_
        rintro m48 _ _ σ ⟨y39, y40, y43, v41, j44, j45, W46, rfl, l46, rfl, o42, hm⟩
        obtain _ | m48 := m48
        · cases hm
        unfold Vm.laws_FnMemoDone_l1 at hm
        have a49 : Le LL _ _ := l46.sub rfl
        have o50 := o37.up l46 rfl
        have o51 := o38.up l46 rfl
        refine Cw.seq ?_
        refine Cw.seq ?_
        refine Cw.region ?_
        refine Lw.r rfl (R.mv (v := vI y43) rfl) (Lw.r rfl (R.mv (v := v0_10) rfl) (Lw.r rfl (lenR (xs := z8) o51.rd rfl) (Lw.r rfl (R.lt rfl rfl) ?_)))
        refine Lw.nil ?_
        refine Cw.cond (b := decide ((y43 : Int) < ((z8.length : Int) : Int))) rfl (fun hc52 => ?_) (fun hc52 => ?_)
        · replace hm := bt hm hc52
          refine Cw.skip ?_
          obtain ⟨K60, hK60, hm⟩ := jn_e hm
          refine Cw.join 55 95 [2, 7, 9, 10] (fun l w => ∃ (y53 : Bool) (y54 : List Vm.Memo) (v55 j57 j58 : Value) (W59 : CW), W59.w = w ∧ Le [6] W46 W59 ∧ l = [vB y53, v55, j57, j58] ∧ Ow W59 5 [] [v55] y54 ∧ K60 y53 y54 = some r) ?_ ?_
          · rintro _ _ σ ⟨y53, y54, v55, j57, j58, W59, rfl, l59, rfl, o56, hm⟩
            rw [hK60] at hm
            have a61 : Le LL _ _ := l59.sub rfl
            have o62 := o50.up l59 rfl
            have o63 := o51.up l59 rfl
            refine Cw.region ?_
            refine Lw.r rfl (R.mv (v := vI y43) rfl) (Lw.r rfl (R.add rfl rfl) (Lw.r rfl (R.as (v := vI (w64 (y43 + 1))) rfl) ?_))
            refine Lw.nil ?_
            refine ⟨?_, m48, Nat.lt_succ_self m48, ⟨y53, y54, w64 (y43 + 1), v55, j57, j58, W59, rfl, (l46.trans l59), rfl, o56, hm⟩⟩
            iterate 3 (refine Agree.up rfl ?_)
            iterate 4 (refine Agree.up rfl ?_)
            refine Agree.ov0 rfl ?_
            iterate 4 (refine Agree.up rfl ?_)
            iterate 5 (refine Agree.up rfl ?_)
            exact Agree.base
          · refine Cw.block ?_
            refine Cw.seq ?_
            refine Cw.region ?_
            refine Lw.r rfl (R.mv (v := v0_10) rfl) (Lw.r rfl (R.mv (v := vI y43) rfl) ?_)
            obtain ⟨u64, e65, hm⟩ := ob hm
            refine Lw.r rfl (R.ix (α := Part) o51.rd e65 rfl rfl rfl) (Lw.r rfl (R.fa rfl) (Lw.r rfl (R.ld rfl rfl (Part.at0 (o51.rd.at_ e65)).bool) ?_))
            refine Lw.nil ?_
            refine Cw.cond (b := u64.Clash) rfl (fun hc66 => ?_) (fun hc66 => ?_)
            · replace hm := bt hm hc66
              refine Cw.seq ?_
              refine Cw.draw [] [(0, 0), (1, 0), (2, 0), (3, 0), (4, 0), (5, 1), (6, 0), (7, 0), (8, 0), (9, 0), (10, 1), (11, 0), (12, 0), (13, 0), (14, 0), (15, 1), (16, 0), (17, 0), (18, 0), (19, 0), (20, 1), (21, 0), (22, 2), (23, 0), (24, 0), (25, 0), (26, 0), (27, 0)] mixed (by kernel_rfl) fun W67 l67 => ?_
              have a68 : Le LL _ _ := l67.nil
              have o69 := o50.up l67 rfl
              have o70 := o51.up l67 rfl
              have o71 := o42.up l67 rfl
              refine Mw.p rfl rfl (fun _ => R.mv (v := v41) rfl) (Mw.p rfl rfl (fun _ => R.mv (v := v0_10) rfl) (Mw.p rfl rfl (fun _ => R.mv (v := vI y43) rfl) ?_))
              obtain ⟨u72, e73, hm⟩ := ob hm
              refine Mw.p rfl rfl (fun _ => R.ix (α := Part) o70.rd e73 rfl rfl rfl) (Mw.p rfl rfl (fun _ => R.fa rfl) ?_)
              obtain ⟨v74, c75, r76⟩ := (Part.at2 (o70.rd.at_ e73)).cell rfl
              refine Mw.q rfl rfl (fun _ c => R.ld rfl rfl (cl_cell (Part.at2 (o70.rd.at_ e73)).1 rfl c75 c)) (Mw.p rfl rfl (fun _ => R.mv (v := v0_10) rfl) (Mw.p rfl rfl (fun _ => R.mv (v := vI y43) rfl) ?_))
              obtain ⟨u77, e78, hm⟩ := ob hm
              refine Mw.p rfl rfl (fun _ => R.ix (α := Part) o70.rd e78 rfl rfl rfl) (Mw.p rfl rfl (fun _ => R.fa rfl) ?_)
              obtain ⟨v79, c80, r81⟩ := (Part.at3 (o70.rd.at_ e78)).cell rfl
              refine Mw.q rfl rfl (fun _ c => R.ld rfl rfl (cl_cell (Part.at3 (o70.rd.at_ e78)).1 rfl c80 c)) (Mw.p rfl rfl (fun _ => R.mv (v := v0_10) rfl) (Mw.p rfl rfl (fun _ => R.mv (v := vI y43) rfl) ?_))
              obtain ⟨u82, e83, hm⟩ := ob hm
              refine Mw.p rfl rfl (fun _ => R.ix (α := Part) o70.rd e83 rfl rfl rfl) (Mw.p rfl rfl (fun _ => R.fa rfl) ?_)
              obtain ⟨v84, c85, r86⟩ := (Part.at4 (o70.rd.at_ e83)).cell rfl
              refine Mw.q rfl rfl (fun _ c => R.ld rfl rfl (cl_cell (Part.at4 (o70.rd.at_ e83)).1 rfl c85 c)) (Mw.p rfl rfl (fun _ => R.mv (v := v0_10) rfl) (Mw.p rfl rfl (fun _ => R.mv (v := vI y43) rfl) ?_))
              obtain ⟨u87, e88, hm⟩ := ob hm
              refine Mw.p rfl rfl (fun _ => R.ix (α := Part) o70.rd e88 rfl rfl rfl) (Mw.p rfl rfl (fun _ => R.fa rfl) ?_)
              obtain ⟨v89, c90, r91⟩ := (Part.at3 (o70.rd.at_ e88)).cell rfl
              refine Mw.q rfl rfl (fun _ c => R.ld rfl rfl (cl_cell (Part.at3 (o70.rd.at_ e88)).1 rfl c90 c)) (Mw.p rfl rfl (fun _ => R.bd (zs := [.slice none 0 0, .slice none 0 0, .slice none 0 0, .slice none 0 0]) (cs := [v74, v79, v84, v89]) [(0, v74), (1, v79), (2, v84), (3, v89)] rfl rfl rfl (bp_cons r76.oc rfl (bp_cons r81.oc rfl (bp_cons r86.oc rfl (bp_cons r91.oc rfl bp_nil))))) ?_)
              obtain ⟨z92, e93, hm⟩ := ob hm
              refine Mw.t rfl rfl (T.call rfl (p18 (K := [3, 5]) (k0 := 6) (o71.rd.sub (M := [3, 5]) rfl) ((Memo.rd (K := [3]) u72.Old u77.One u82.Two u87.One r76 r81 r86 r91).sub (M := [3, 5]) rfl) e93)) ?_
              rintro _ _ ⟨W94, rfl, l94, ⟨v0_94, rfl, f94_0⟩⟩
              have a95 : Le LL _ _ := l94.nil
              have o96 := o69.up l94 rfl
              have o97 := o70.up l94 rfl
              have o98 := o71.up l94 rfl
              refine ⟨⟨_, rfl, (l94.sub (M := []) rfl)⟩, ?_⟩
              refine Mw.p rfl rfl (fun _ => R.mv (v := .tuple [v0_94, vB z92.2].toArray) rfl) (Mw.p rfl rfl (fun _ => R.ext (vs := [v0_94, vB z92.2]) (v := v0_94) rfl rfl) (Mw.p rfl rfl (fun _ => R.ext (vs := [v0_94, vB z92.2]) (v := vB z92.2) rfl rfl) (Mw.p rfl rfl (fun _ => R.as (v := v0_94) rfl) (Mw.p rfl rfl (fun _ => R.as (v := vB z92.2) rfl) ?_))))
              refine Mw.nil ?_
              refine Cw.seq ?_
              obtain ⟨K101, hK101, hm⟩ := jn_e hm
              refine Cw.join 86 94 [94] (fun l w => ∃ (y99 : Bool) (W100 : CW), W100.w = w ∧ Le [] W94 W100 ∧ l = [vB y99] ∧ K101 y99 = some r) ?_ ?_
              · rintro _ _ σ ⟨y99, W100, rfl, l100, rfl, hm⟩
                rw [hK101] at hm
                have a102 : Le LL _ _ := l100.nil
                have o103 := o96.up l100 rfl
                have o104 := o97.up l100 rfl
                have o105 := o98.up l100 rfl
                have o106 := f94_0.up l100 rfl
                refine Cw.cond (b := y99) rfl (fun hc107 => ?_) (fun hc107 => ?_)
                · replace hm := bt hm hc107
                  refine Cw.seq ?_
                  refine Cw.region ?_
                  refine Lw.r rfl (R.as (v := vB true) rfl) ?_
                  refine Lw.nil ?_
                  cases hm
                  exact Cw.ret (ret1 rfl (Res.mk (a7.trans (a11.trans (a16.trans (a36.trans (a49.trans (a68.trans (a95.trans a102))))))) rfl))
                · replace hm := bf hm hc107
                  refine Cw.skip ?_
                  refine Cw.region ?_
                  refine Lw.r rfl (R.mv (v := v0_94) rfl) (Lw.r rfl (R.as (v := v0_94) rfl) ?_)
                  refine Lw.nil ?_
                  obtain ⟨W108, ew108, l108, o108⟩ := o106.dyeO 5
                  have a109 : Le LL _ _ := l108.sub rfl
                  have o110 := o103.up l108 rfl
                  have o111 := o104.up l108 rfl
                  refine ⟨?_, ⟨y39, z92.1, v0_94, v0_94, vB z92.2, W108, ew108, ((l67.sub rfl).trans ((l94.sub rfl).trans ((l100.sub rfl).trans l108))), rfl, o108, hm⟩⟩
                  iterate 2 (refine Agree.up rfl ?_)
                  iterate 1 (refine Agree.up rfl ?_)
                  refine Agree.ov0 rfl ?_
                  iterate 33 (refine Agree.up rfl ?_)
                  exact Agree.refl _
              · refine Cw.region ?_
                refine Lw.r rfl (R.mv (v := vB z92.2) rfl) (Lw.r rfl (R.not rfl) (Lw.r rfl (R.mv (v := vB (!z92.2)) rfl) ?_))
                refine bsplit (!z92.2) (fun hc112 => ?_) (fun hc112 => ?_)
                · replace hm := bt hm hc112
                  refine Lw.pass' hc112 rfl rfl rfl rfl rfl rfl rfl ?_
                  refine Lw.pass' hc112 rfl rfl rfl rfl rfl rfl rfl ?_
                  refine Lw.pass' hc112 rfl rfl rfl rfl rfl rfl rfl ?_
                  refine Lw.pass' hc112 rfl rfl rfl rfl rfl rfl rfl ?_
                  refine Lw.pass' hc112 rfl rfl rfl rfl rfl rfl rfl ?_
                  refine Lw.r rfl (R.pk hc112 rfl (v := vB true) rfl) ?_
                  refine Lw.nil ?_
                  refine ⟨?_, ⟨true, W94, rfl, Le.refl _ _, rfl, hm⟩⟩
                  iterate 9 (refine Agree.up rfl ?_)
                  exact Agree.refl _
                · replace hm := bf hm hc112
                  refine Lw.want' hc112 rfl rfl rfl rfl ?_
                  refine Lw.r rfl (R.mv (v := v0_94) rfl) ?_
                  refine Lw.want' hc112 rfl rfl rfl rfl ?_
                  refine Lw.r rfl (lenR (xs := z92.1) f94_0.rd rfl) ?_
                  refine Lw.want' hc112 rfl rfl rfl rfl ?_
                  refine Lw.r rfl (R.mv (v := v41) rfl) ?_
                  refine Lw.want' hc112 rfl rfl rfl rfl ?_
                  refine Lw.r rfl (lenR (xs := y40) o98.rd rfl) ?_
                  refine Lw.want' hc112 rfl rfl rfl rfl ?_
                  refine Lw.r rfl (R.eq rfl rfl) (Lw.r rfl (R.pk hc112 rfl (v := vB (((z92.1.length : Int) : Int) == ((y40.length : Int) : Int))) rfl) ?_)
                  refine Lw.nil ?_
                  refine ⟨?_, ⟨(((z92.1.length : Int) : Int) == ((y40.length : Int) : Int)), W94, rfl, Le.refl _ _, rfl, hm⟩⟩
                  iterate 9 (refine Agree.up rfl ?_)
                  exact Agree.refl _
            · replace hm := bf hm hc66
              refine Cw.skip ?_
              refine ⟨?_, ⟨y39, y40, v41, j44, j45, W46, rfl, Le.refl _ _, rfl, o42, hm⟩⟩
              iterate 5 (refine Agree.up rfl ?_)
              exact Agree.refl _
        · replace hm := bf hm hc52
          refine Cw.exit ?_
          rw [hK47] at hm
          refine Cw.seq ?_
          refine Cw.region ?_
          refine Lw.r rfl (R.mv (v := v41) rfl) (Lw.r rfl (R.mv (v := v0_4) rfl) (Lw.r rfl (R.mv (v := v1_4) rfl) (Lw.r rfl (R.mv (v := v2_4) rfl) ?_)))
          have s113 := s5.ul (a11.trans (a16.trans (a36.trans a49)))
          have s114 := s6.ul (a11.trans (a16.trans (a36.trans a49)))
          obtain ⟨z115, e116, hm⟩ := ob hm
          refine Lw.t rfl (T.call rfl (p37 (K := [0, 2, 5]) (k0 := 7) (o42.rd.sub (M := [0, 2, 5]) rfl) (o50.rd.sub (M := [0, 2, 5]) rfl) (s113.sub (M := [0, 2, 5]) rfl) (s114.sub (M := [0, 2, 5]) rfl) e116)) ?_
          rintro _ _ ⟨W117, rfl, l117, ⟨v0_117, rfl, f117_0⟩⟩
          have a118 : Le LL _ _ := l117.nil
          have o119 := o50.up l117 rfl
          have o120 := o51.up l117 rfl
          have o121 := o42.up l117 rfl
          refine Lw.r rfl (R.mv (v := .tuple [v0_117, vB z115.2].toArray) rfl) (Lw.r rfl (R.ext (vs := [v0_117, vB z115.2]) (v := v0_117) rfl rfl) (Lw.r rfl (R.ext (vs := [v0_117, vB z115.2]) (v := vB z115.2) rfl rfl) (Lw.r rfl (R.as (v := v0_117) rfl) (Lw.r rfl (R.as (v := vB z115.2) rfl) ?_))))
          refine Lw.nil ?_
          refine Cw.seq ?_
          refine Cw.region ?_
          refine Lw.r rfl (R.mv (v := v0_4) rfl) (Lw.r rfl (R.mv (v := v1_4) rfl) (Lw.r rfl (R.mv (v := v2_4) rfl) ?_))
          have s122 := s5.ul (a11.trans (a16.trans (a36.trans (a49.trans a118))))
          have s123 := s6.ul (a11.trans (a16.trans (a36.trans (a49.trans a118))))
          obtain ⟨z124, e125, hm⟩ := ob hm
          refine Lw.t rfl (T.call rfl (p38 (K := [0, 2]) (k0 := 8) (o119.rd.sub (M := [0, 2]) rfl) (s122.sub (M := [0, 2]) rfl) (s123.sub (M := [0, 2]) rfl) e125)) ?_
          rintro _ _ ⟨W126, rfl, l126, ⟨v0_126, rfl, f126_0⟩⟩
          have a127 : Le LL _ _ := l126.nil
          have o128 := o119.up l126 rfl
          have o129 := o120.up l126 rfl
          have o130 := o121.up l126 rfl
          have o131 := f117_0.up l126 rfl
          refine Lw.r rfl (R.mv (v := .tuple [v0_126, vB z124.2].toArray) rfl) (Lw.r rfl (R.ext (vs := [v0_126, vB z124.2]) (v := v0_126) rfl rfl) (Lw.r rfl (R.ext (vs := [v0_126, vB z124.2]) (v := vB z124.2) rfl rfl) (Lw.r rfl (R.as (v := v0_126) rfl) (Lw.r rfl (R.as (v := vB z124.2) rfl) ?_))))
          refine Lw.nil ?_
          obtain ⟨K134, hK134, hm⟩ := jn_e hm
          refine Cw.join 111 118 [2] (fun l w => ∃ (y132 : Bool) (W133 : CW), W133.w = w ∧ Le [] W126 W133 ∧ l = [vB y132] ∧ K134 y132 = some r) ?_ ?_
          · rintro _ _ σ ⟨y132, W133, rfl, l133, rfl, hm⟩
            rw [hK134] at hm
            have a135 : Le LL _ _ := l133.nil
            have o136 := o128.up l133 rfl
            have o137 := o129.up l133 rfl
            have o138 := o130.up l133 rfl
            have o139 := o131.up l133 rfl
            have o140 := f126_0.up l133 rfl
            cases hm
            exact Cw.ret (ret1 rfl (Res.mk (a7.trans (a11.trans (a16.trans (a36.trans (a49.trans (a118.trans (a127.trans a135))))))) rfl))
          · refine Cw.region ?_
            refine Lw.r rfl (R.mv (v := vB z115.2) rfl) (Lw.r rfl (R.mv (v := vB z124.2) rfl) (Lw.r rfl (R.beq rfl rfl) (Lw.r rfl (R.mv (v := vB (z115.2 == z124.2)) rfl) ?_)))
            refine bsplit (z115.2 == z124.2) (fun hc141 => ?_) (fun hc141 => ?_)
            · replace hm := bt hm hc141
              refine Lw.want' hc141 rfl rfl rfl rfl ?_
              refine Lw.r rfl (R.mv (v := v0_117) rfl) ?_
              refine Lw.want' hc141 rfl rfl rfl rfl ?_
              refine Lw.r rfl (R.mv (v := v0_126) rfl) ?_
              refine Lw.want' hc141 rfl rfl rfl rfl ?_
              obtain ⟨z142, e143, hm⟩ := ob hm
              refine Lw.t rfl (T.call rfl (p39 (K := [7, 8])  (o131.rd.sub (M := [7, 8]) rfl) (f126_0.rd.sub (M := [7, 8]) rfl) e143)) ?_
              rintro _ _ ⟨W144, rfl, l144, rfl⟩
              have a145 : Le LL _ _ := l144.nil
              have o146 := o128.up l144 rfl
              have o147 := o129.up l144 rfl
              have o148 := o130.up l144 rfl
              have o149 := o131.up l144 rfl
              have o150 := f126_0.up l144 rfl
              refine Lw.r rfl (R.pk hc141 rfl (v := vB z142) rfl) (Lw.r rfl (R.as (v := vB z142) rfl) ?_)
              refine Lw.nil ?_
              refine ⟨?_, ⟨z142, W144, rfl, l144, rfl, hm⟩⟩
              iterate 9 (refine Agree.up rfl ?_)
              exact Agree.refl _
            · replace hm := bf hm hc141
              refine Lw.pass' hc141 rfl rfl rfl rfl rfl rfl rfl ?_
              refine Lw.pass' hc141 rfl rfl rfl rfl rfl rfl rfl ?_
              refine Lw.pass' hc141 rfl rfl rfl rfl rfl rfl rfl ?_
              refine Lw.r rfl (R.pk hc141 rfl (v := vB false) rfl) (Lw.r rfl (R.as (v := vB false) rfl) ?_)
              refine Lw.nil ?_
              refine ⟨?_, ⟨false, W126, rfl, Le.refl _ _, rfl, hm⟩⟩
              iterate 9 (refine Agree.up rfl ?_)
              exact Agree.refl _
    · refine Cw.region ?_
      refine Lw.r rfl (R.mv (v := v0_10) rfl) (Lw.r rfl (R.mv (v := v0_4) rfl) (Lw.r rfl (R.mv (v := v1_4) rfl) (Lw.r rfl (R.mv (v := v2_4) rfl) ?_)))
      have s151 := s5.ul a11
      have s152 := s6.ul a11
      obtain ⟨z153, e154, hm⟩ := ob hm
      refine Lw.t rfl (T.call rfl (p35 (K := [0, 2]) (k0 := 9) (o12.rd.sub (M := [0, 2]) rfl) (s151.sub (M := [0, 2]) rfl) (s152.sub (M := [0, 2]) rfl) e154)) ?_
      rintro v0_155 _ ⟨W155, rfl, l155, ⟨_, rfl, f155_0⟩⟩
      have a156 : Le LL _ _ := l155.nil
      have o157 := o12.up l155 rfl
      have o158 := f10_0.up l155 rfl
      obtain ⟨z159, e160, hm⟩ := ob hm
      refine Lw.t rfl (T.call rfl (p34 (K := [3, 9])  (o158.rd.sub (M := [3, 9]) rfl) (f155_0.rd.sub (M := [3, 9]) rfl) e160)) ?_
      rintro _ _ ⟨W161, rfl, l161, rfl⟩
      have a162 : Le LL _ _ := l161.nil
      have o163 := o157.up l161 rfl
      have o164 := o158.up l161 rfl
      have o165 := f155_0.up l161 rfl
      refine Lw.r rfl (R.not rfl) (Lw.r rfl (R.mv (v := vB (!z159)) rfl) ?_)
      refine bsplit (!z159) (fun hc166 => ?_) (fun hc166 => ?_)
      · replace hm := bt hm hc166
        refine Lw.pass' hc166 rfl rfl rfl rfl rfl rfl rfl ?_
        refine Lw.pass' hc166 rfl rfl rfl rfl rfl rfl rfl ?_
        refine Lw.pass' hc166 rfl rfl rfl rfl rfl rfl rfl ?_
        refine Lw.pass' hc166 rfl rfl rfl rfl rfl rfl rfl ?_
        refine Lw.pass' hc166 rfl rfl rfl rfl rfl rfl rfl ?_
        refine Lw.r rfl (R.pk hc166 rfl (v := vB true) rfl) ?_
        refine Lw.nil ?_
        refine ⟨?_, ⟨true, W161, rfl, (l155.trans l161), rfl, hm⟩⟩
        iterate 14 (refine Agree.up rfl ?_)
        exact Agree.refl _
      · replace hm := bf hm hc166
        refine Lw.want' hc166 rfl rfl rfl rfl ?_
        refine Lw.r rfl (R.mv (v := v0_4) rfl) ?_
        refine Lw.want' hc166 rfl rfl rfl rfl ?_
        refine Lw.r rfl (R.mv (v := v1_4) rfl) ?_
        refine Lw.want' hc166 rfl rfl rfl rfl ?_
        refine Lw.r rfl (R.mv (v := v2_4) rfl) ?_
        refine Lw.want' hc166 rfl rfl rfl rfl ?_
        have s167 := s5.ul (a11.trans (a156.trans a162))
        have s168 := s6.ul (a11.trans (a156.trans a162))
        obtain ⟨z169, e170, hm⟩ := ob hm
        refine Lw.t rfl (T.call rfl (p36 (K := [0, 2])  (o163.rd.sub (M := [0, 2]) rfl) (s167.sub (M := [0, 2]) rfl) (s168.sub (M := [0, 2]) rfl) e170)) ?_
        rintro _ _ ⟨W171, rfl, l171, rfl⟩
        have a172 : Le LL _ _ := l171.nil
        have o173 := o163.up l171 rfl
        have o174 := o164.up l171 rfl
        have o175 := o165.up l171 rfl
        refine Lw.want' hc166 rfl rfl rfl rfl ?_
        refine Lw.r rfl (R.lt rfl rfl) (Lw.r rfl (R.pk hc166 rfl (v := vB (decide ((z169 : Int) < (0 : Int)))) rfl) ?_)
        refine Lw.nil ?_
        refine ⟨?_, ⟨decide ((z169 : Int) < (0 : Int)), W171, rfl, (l155.trans (l161.trans l171)), rfl, hm⟩⟩
        iterate 14 (refine Agree.up rfl ?_)
        exact Agree.refl _

theorem p7 {W : CW} {K : List Nat} {x0 : List Byte} {v0_ : Value} {r : Bool} (h0 : Rd W K [v0_] x0) (hm : Vm.laws_FnMemoDone x0 = some r) : CallR Try.prog 7 [v0_].toArray W.w (Res W [] fun W' v => v = vB r) :=
  (c7 (V := W.view K []) (h0.view _) hm).ad (fk 0) fun _ _ e => e

end Go.Sx
