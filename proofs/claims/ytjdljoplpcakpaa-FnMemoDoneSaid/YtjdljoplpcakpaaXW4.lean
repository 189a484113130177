/- Walks: each function answers as its model, printed by a program of ours. Conditions: the arguments read as they are given. -/
import Derived.Test.YtjdljoplpcakpaaXTs
import Derived.Test.YtjdljoplpcakpaaXMd
import Derived.Test.YtjdljoplpcakpaaXW0
import Derived.Test.YtjdljoplpcakpaaXW3
namespace Go.Sx
open Go Go.Proofs Go.Vm Rp
set_option linter.unusedVariables false
set_option linter.unusedSimpArgs false

theorem c95 {V : CW} {x0 : List Str} {v0_ : Value} {x1 : List Str} {v1_ : Value} {x2 : List Str} {v2_ : Value} {r : Vm.Part} (h0 : Rd V [0] [v0_] x0) (h1 : Rd V [0] [v1_] x1) (h2 : Rd V [0] [v2_] x2) (hm : Vm.spec_l3Part x0 x1 x2 = some r) : CallR Try.prog 95 [v0_, v1_, v2_].toArray V.w (Res V LL fun Wf v => ∃ (u0_1 : Value) (u0_2 : Value) (u0_3 : Value) (u0_4 : Value), v = .agg [vB r.Clash, u0_1, u0_2, u0_3, u0_4].toArray ∧ OwS Wf [31] [] [u0_1] r.Lines ∧ OwS Wf [32] [] [u0_2] r.Old ∧ OwS Wf [33] [] [u0_3] r.One ∧ OwS Wf [34] [] [u0_4] r.Two) := by
  unfold Vm.spec_l3Part at hm
  obtain ⟨W0, hW0⟩ : ∃ W, W = V := ⟨V, rfl⟩
  subst hW0
  refine CallR.of Try.func95 rfl rfl rfl rfl ?_
  refine Cw.seq ?_
  refine Cw.region ?_
  refine Lw.t rfl (T.alloc 2 (cs := [vB false, .slice none 0 0, .slice none 0 0, .slice none 0 0, .slice none 0 0]) rfl) ?_
  rintro _ _ ⟨g1, W1, rfl, rfl, l1, b1⟩
  have a2 : Le LL _ _ := l1.nil
  refine Lw.nil ?_
  refine Cw.seq ?_
  refine Cw.block ?_
  obtain ⟨K5, hK5, hm⟩ := jn_e hm
  refine Cw.join 7 13 [7] (fun l w => ∃ (y3 : Bool) (W4 : CW), W4.w = w ∧ Le [] W1 W4 ∧ l = [vB y3] ∧ K5 y3 = some r) ?_ ?_
  · rintro _ _ σ ⟨y3, W4, rfl, l4, rfl, hm⟩
    rw [hK5] at hm
    have a6 : Le LL _ _ := l4.nil
    have b7 := b1.up l4 rfl
    refine Cw.cond (b := y3) rfl (fun hc8 => ?_) (fun hc8 => ?_)
    · replace hm := bt hm hc8
      refine Cw.seq ?_
      refine Cw.region ?_
      refine Lw.t rfl (T.lit0 (α := Str) 3 []) ?_
      rintro v9 _ ⟨W9, rfl, l9, o9⟩
      have a10 : Le LL _ _ := l9.nil
      have b11 := b7.up l9 rfl
      refine Lw.r rfl (R.mv (v := v2_) rfl) ?_
      obtain ⟨q12, e13, hm⟩ := ob hm
      have s15 := h2.ul (a2.trans (a6.trans a10))
      refine Lw.t rfl (T.appP (α := Str) o9 s15 rfl rfl e13) ?_
      rintro v14 _ ⟨W14, rfl, l14, o14⟩
      have a16 : Le LL _ _ := l14.sub rfl
      have b17 := b11.up l14 rfl
      refine Lw.r rfl (R.bd (zs := [vB false, .slice none 0 0, .slice none 0 0, .slice none 0 0, .slice none 0 0]) (cs := [vB false, v14, .slice none 0 0, .slice none 0 0, .slice none 0 0]) [(1, v14)] rfl rfl rfl (bp_cons o14.oc rfl bp_nil)) ?_
      refine Lw.u (T.sta (vs := [vB false, v14, .slice none 0 0, .slice none 0 0, .slice none 0 0]) b17 rfl rfl (oc_cons rfl (oc_cons o14.oc (oc_cons rfl (oc_cons rfl (oc_cons rfl oc_nil))))) rfl rfl) ?_
      rintro _ _ ⟨W18, rfl, l18, b18⟩
      have a19 : Le LL _ _ := l18.sub rfl
      have o20 := o14.up l18 rfl
      refine Lw.nil ?_
      obtain ⟨W21, ew21, l21, o21⟩ := o20.dyeO 31
      have a22 : Le LL _ _ := l21.sub rfl
      have b23 := b18.up l21 rfl
      cases hm
      rw [← ew21]
      exact Cw.ret (retA1 rfl b23 (Res.mk (a2.trans (a6.trans (a10.trans (a16.trans (a19.trans a22))))) ⟨v14, .slice none 0 0, .slice none 0 0, .slice none 0 0, rfl, o21.s, (owsN []).sub rfl rfl, (owsN []).sub rfl rfl, (owsN []).sub rfl rfl⟩))
    · replace hm := bf hm hc8
      refine Cw.seq ?_
      refine Cw.region ?_
      refine Lw.r rfl (R.mv (v := v2_) rfl) (Lw.r rfl (R.mv (v := v0_) rfl) ?_)
      have s24 := h2.ul (a2.trans a6)
      have s25 := h0.ul (a2.trans a6)
      obtain ⟨z26, e27, hm⟩ := ob hm
      refine Lw.t rfl (T.call rfl (p89 (K := [0])  s24 s25 e27)) ?_
      rintro _ _ ⟨W28, rfl, l28, rfl⟩
      have a29 : Le LL _ _ := l28.nil
      have b30 := b7.up l28 rfl
      refine Lw.r rfl (R.as (v := vB z26) rfl) ?_
      refine Lw.nil ?_
      refine Cw.cond (b := z26) rfl (fun hc31 => ?_) (fun hc31 => ?_)
      · replace hm := bt hm hc31
        refine Cw.seq ?_
        refine Cw.region ?_
        refine Lw.t rfl (T.lit0 (α := Str) 4 []) ?_
        rintro v32 _ ⟨W32, rfl, l32, o32⟩
        have a33 : Le LL _ _ := l32.nil
        have b34 := b30.up l32 rfl
        refine Lw.r rfl (R.mv (v := v1_) rfl) ?_
        obtain ⟨q35, e36, hm⟩ := ob hm
        have s38 := h1.ul (a2.trans (a6.trans (a29.trans a33)))
        refine Lw.t rfl (T.appP (α := Str) o32 s38 rfl rfl e36) ?_
        rintro v37 _ ⟨W37, rfl, l37, o37⟩
        have a39 : Le LL _ _ := l37.sub rfl
        have b40 := b34.up l37 rfl
        refine Lw.r rfl (R.bd (zs := [vB false, .slice none 0 0, .slice none 0 0, .slice none 0 0, .slice none 0 0]) (cs := [vB false, v37, .slice none 0 0, .slice none 0 0, .slice none 0 0]) [(1, v37)] rfl rfl rfl (bp_cons o37.oc rfl bp_nil)) ?_
        refine Lw.u (T.sta (vs := [vB false, v37, .slice none 0 0, .slice none 0 0, .slice none 0 0]) b40 rfl rfl (oc_cons rfl (oc_cons o37.oc (oc_cons rfl (oc_cons rfl (oc_cons rfl oc_nil))))) rfl rfl) ?_
        rintro _ _ ⟨W41, rfl, l41, b41⟩
        have a42 : Le LL _ _ := l41.sub rfl
        have o43 := o37.up l41 rfl
        refine Lw.nil ?_
        obtain ⟨W44, ew44, l44, o44⟩ := o43.dyeO 31
        have a45 : Le LL _ _ := l44.sub rfl
        have b46 := b41.up l44 rfl
        cases hm
        rw [← ew44]
        exact Cw.ret (retA1 rfl b46 (Res.mk (a2.trans (a6.trans (a29.trans (a33.trans (a39.trans (a42.trans a45)))))) ⟨v37, .slice none 0 0, .slice none 0 0, .slice none 0 0, rfl, o44.s, (owsN []).sub rfl rfl, (owsN []).sub rfl rfl, (owsN []).sub rfl rfl⟩))
      · replace hm := bf hm hc31
        refine Cw.skip ?_
        refine Cw.seq ?_
        refine Cw.region ?_
        refine Lw.t rfl (T.lit0 (α := Str) 5 []) ?_
        rintro v47 _ ⟨W47, rfl, l47, o47⟩
        have a48 : Le LL _ _ := l47.nil
        have b49 := b30.up l47 rfl
        refine Lw.r rfl (R.mv (v := v0_) rfl) ?_
        obtain ⟨q50, e51, hm⟩ := ob hm
        have s53 := h0.ul (a2.trans (a6.trans (a29.trans a48)))
        refine Lw.t rfl (T.appP (α := Str) o47 s53 rfl rfl e51) ?_
        rintro v52 _ ⟨W52, rfl, l52, o52⟩
        have a54 : Le LL _ _ := l52.sub rfl
        have b55 := b49.up l52 rfl
        refine Lw.t rfl (T.lit0 (α := Str) 6 []) ?_
        rintro v56 _ ⟨W56, rfl, l56, o56⟩
        have a57 : Le LL _ _ := l56.nil
        have o58 := o52.up l56 rfl
        have b59 := b55.up l56 rfl
        refine Lw.r rfl (R.mv (v := v1_) rfl) ?_
        obtain ⟨q60, e61, hm⟩ := ob hm
        have s63 := h1.ul (a2.trans (a6.trans (a29.trans (a48.trans (a54.trans a57)))))
        refine Lw.t rfl (T.appP (α := Str) o56 s63 rfl rfl e61) ?_
        rintro v62 _ ⟨W62, rfl, l62, o62⟩
        have a64 : Le LL _ _ := l62.sub rfl
        have o65 := o58.up l62 rfl
        have b66 := b59.up l62 rfl
        refine Lw.t rfl (T.lit0 (α := Str) 7 []) ?_
        rintro v67 _ ⟨W67, rfl, l67, o67⟩
        have a68 : Le LL _ _ := l67.nil
        have o69 := o65.up l67 rfl
        have o70 := o62.up l67 rfl
        have b71 := b66.up l67 rfl
        refine Lw.r rfl (R.mv (v := v2_) rfl) ?_
        obtain ⟨q72, e73, hm⟩ := ob hm
        have s75 := h2.ul (a2.trans (a6.trans (a29.trans (a48.trans (a54.trans (a57.trans (a64.trans a68)))))))
        refine Lw.t rfl (T.appP (α := Str) o67 s75 rfl rfl e73) ?_
        rintro v74 _ ⟨W74, rfl, l74, o74⟩
        have a76 : Le LL _ _ := l74.sub rfl
        have o77 := o69.up l74 rfl
        have o78 := o70.up l74 rfl
        have b79 := b71.up l74 rfl
        refine Lw.r rfl (R.bd (zs := [vB false, .slice none 0 0, .slice none 0 0, .slice none 0 0, .slice none 0 0]) (cs := [vB true, .slice none 0 0, v52, v62, v74]) [(0, vB true), (2, v52), (3, v62), (4, v74)] rfl rfl rfl (bp_cons rfl rfl (bp_cons o77.oc rfl (bp_cons o78.oc rfl (bp_cons o74.oc rfl bp_nil))))) ?_
        refine Lw.u (T.sta (vs := [vB true, .slice none 0 0, v52, v62, v74]) b79 rfl rfl (oc_cons rfl (oc_cons rfl (oc_cons o77.oc (oc_cons o78.oc (oc_cons o74.oc oc_nil))))) rfl rfl) ?_
        rintro _ _ ⟨W80, rfl, l80, b80⟩
        have a81 : Le LL _ _ := l80.sub rfl
        have o82 := o77.up l80 rfl
        have o83 := o78.up l80 rfl
        have o84 := o74.up l80 rfl
        refine Lw.nil ?_
        obtain ⟨W85, ew85, l85, o85⟩ := o82.dyeO 32
        have a86 : Le LL _ _ := l85.sub rfl
        have o87 := o83.up l85 rfl
        have o88 := o84.up l85 rfl
        have b89 := b80.up l85 rfl
        obtain ⟨W90, ew90, l90, o90⟩ := o87.dyeO 33
        have a91 : Le LL _ _ := l90.sub rfl
        have o92 := o88.up l90 rfl
        have o93 := o85.up l90 rfl
        have b94 := b89.up l90 rfl
        obtain ⟨W95, ew95, l95, o95⟩ := o92.dyeO 34
        have a96 : Le LL _ _ := l95.sub rfl
        have o97 := o93.up l95 rfl
        have o98 := o90.up l95 rfl
        have b99 := b94.up l95 rfl
        cases hm
        rw [← ew95.trans (ew90.trans (ew85))]
        exact Cw.ret (retA1 rfl b99 (Res.mk (a2.trans (a6.trans (a29.trans (a48.trans (a54.trans (a57.trans (a64.trans (a68.trans (a76.trans (a81.trans (a86.trans (a91.trans a96)))))))))))) ⟨.slice none 0 0, v52, v62, v74, rfl, (owsN []).sub rfl rfl, o97.s, o98.s, o95.s⟩))
  · refine Cw.seq ?_
    refine Cw.region ?_
    refine Lw.r rfl (R.mv (v := v1_) rfl) (Lw.r rfl (R.mv (v := v0_) rfl) ?_)
    have s100 := h1.ul a2
    have s101 := h0.ul a2
    obtain ⟨z102, e103, hm⟩ := ob hm
    refine Lw.t rfl (T.call rfl (p89 (K := [0])  s100 s101 e103)) ?_
    rintro _ _ ⟨W104, rfl, l104, rfl⟩
    have a105 : Le LL _ _ := l104.nil
    have b106 := b1.up l104 rfl
    refine Lw.r rfl (R.as (v := vB z102) rfl) ?_
    refine Lw.nil ?_
    refine Cw.cond (b := z102) rfl (fun hc107 => ?_) (fun hc107 => ?_)
    · replace hm := bt hm hc107
      refine Cw.skip ?_
      refine ⟨?_, ⟨z102, W104, rfl, l104, rfl, hm⟩⟩
      iterate 4 (refine Agree.up rfl ?_)
      exact Agree.refl _
    · replace hm := bf hm hc107
      refine Cw.region ?_
      refine Lw.r rfl (R.mv (v := v1_) rfl) (Lw.r rfl (R.mv (v := v2_) rfl) ?_)
      have s108 := h1.ul (a2.trans a105)
      have s109 := h2.ul (a2.trans a105)
      obtain ⟨z110, e111, hm⟩ := ob hm
      refine Lw.t rfl (T.call rfl (p89 (K := [0])  s108 s109 e111)) ?_
      rintro _ _ ⟨W112, rfl, l112, rfl⟩
      have a113 : Le LL _ _ := l112.nil
      have b114 := b106.up l112 rfl
      refine Lw.r rfl (R.as (v := vB z110) rfl) ?_
      refine Lw.nil ?_
      refine ⟨?_, ⟨z110, W112, rfl, (l104.trans l112), rfl, hm⟩⟩
      iterate 8 (refine Agree.up rfl ?_)
      exact Agree.refl _

theorem p95 {W : CW} {K : List Nat} {x0 : List Str} {v0_ : Value} {x1 : List Str} {v1_ : Value} {x2 : List Str} {v2_ : Value} {k0 : Nat} {k1 : Nat} {k2 : Nat} {k3 : Nat} {r : Vm.Part} (h0 : Rd W K [v0_] x0) (h1 : Rd W K [v1_] x1) (h2 : Rd W K [v2_] x2) (hm : Vm.spec_l3Part x0 x1 x2 = some r) : CallR Try.prog 95 [v0_, v1_, v2_].toArray W.w (Res W [] fun W' v => ∃ (u0_1 : Value) (u0_2 : Value) (u0_3 : Value) (u0_4 : Value), v = .agg [vB r.Clash, u0_1, u0_2, u0_3, u0_4].toArray ∧ Ow W' k0 [] [u0_1] r.Lines ∧ Ow W' k1 [] [u0_2] r.Old ∧ Ow W' k2 [] [u0_3] r.One ∧ Ow W' k3 [] [u0_4] r.Two) :=
  CallR.adJ (J := []) (fun c => bif Nat.beq c 0 then 0 else bif Nat.beq c 31 then k0 else bif Nat.beq c 32 then k1 else bif Nat.beq c 33 then k2 else bif Nat.beq c 34 then k3 else 0) (c95 (V := W.view K []) (h0.view _) (h1.view _) (h2.view _) hm) fun _ _ ⟨u0_1, u0_2, u0_3, u0_4, e, f0, f1, f2, f3⟩ => ⟨u0_1, u0_2, u0_3, u0_4, e, f0.one1.backN rfl, f1.one1.backN rfl, f2.one1.backN rfl, f3.one1.backN rfl⟩

theorem c94 {V : CW} {x0 : List Vm.Part} {v0_ : Value} {x1 : Vm.Part} {v1_1_ : Value} {v1_2_ : Value} {v1_3_ : Value} {v1_4_ : Value} {r : (List Vm.Part)} (h0 : Ow V 2 [] [v0_] x0) (h1_1 : Ow V 3 [] [v1_1_] x1.Lines) (h1_2 : Ow V 4 [] [v1_2_] x1.Old) (h1_3 : Ow V 5 [] [v1_3_] x1.One) (h1_4 : Ow V 6 [] [v1_4_] x1.Two) (hm : Vm.spec_l3Put x0 x1 = some r) : CallR Try.prog 94 [v0_, .agg [vB x1.Clash, v1_1_, v1_2_, v1_3_, v1_4_].toArray].toArray V.w (Res V LL fun Wf v => ∃ (u0 : Value), v = u0 ∧ OwS Wf [31] [] [u0] r) := by
  unfold Vm.spec_l3Put at hm
  obtain ⟨W0, hW0⟩ : ∃ W, W = V := ⟨V, rfl⟩
  subst hW0
  refine CallR.of Try.func94 rfl rfl rfl rfl ?_
  refine Cw.seq ?_
  refine Cw.region ?_
  refine Lw.t rfl (T.box 7 (v := .agg [vB x1.Clash, v1_1_, v1_2_, v1_3_, v1_4_].toArray) (cs := [vB x1.Clash, v1_1_, v1_2_, v1_3_, v1_4_]) rfl rfl) ?_
  rintro _ _ ⟨g1, W1, rfl, rfl, l1, b1⟩
  have a2 : Le LL _ _ := l1.nil
  have o3 := h0.up l1 rfl
  have o4 := h1_1.up l1 rfl
  have o5 := h1_2.up l1 rfl
  have o6 := h1_3.up l1 rfl
  have o7 := h1_4.up l1 rfl
  refine Lw.r rfl (R.as (v := .slice none 0 0) rfl) ?_
  refine Lw.nil ?_
  refine Cw.seq ?_
  refine Cw.region ?_
  refine Lw.r rfl (R.mv (v := v0_) rfl) (Lw.r rfl (lenR (xs := x0) o3.rd rfl) (Lw.r rfl (R.as (v := vI (x0.length : Int)) rfl) ?_))
  refine Lw.nil ?_
  refine Cw.seq ?_
  obtain ⟨K10, hK10, hm⟩ := jn_e hm
  refine Cw.join 8 16 [16] (fun l w => ∃ (y8 : Bool) (W9 : CW), W9.w = w ∧ Le [] W1 W9 ∧ l = [vB y8] ∧ K10 y8 = some r) ?_ ?_
  · rintro _ _ σ ⟨y8, W9, rfl, l9, rfl, hm⟩
    rw [hK10] at hm
    have a11 : Le LL _ _ := l9.nil
    have o12 := o3.up l9 rfl
    have o13 := o4.up l9 rfl
    have o14 := o5.up l9 rfl
    have o15 := o6.up l9 rfl
    have o16 := o7.up l9 rfl
    have b17 := b1.up l9 rfl
    refine Cw.cond (b := y8) rfl (fun hc18 => ?_) (fun hc18 => ?_)
    · replace hm := bt hm hc18
      refine Cw.seq ?_
      refine Cw.region ?_
      refine Lw.r rfl (R.mv (v := v0_) rfl) (Lw.r rfl (R.as (v := v0_) rfl) ?_)
      refine Lw.nil ?_
      obtain ⟨W19, ew19, l19, o19⟩ := o12.dyeO 31
      have a20 : Le LL _ _ := l19.sub rfl
      have o21 := o13.up l19 rfl
      have o22 := o14.up l19 rfl
      have o23 := o15.up l19 rfl
      have o24 := o16.up l19 rfl
      have b25 := b17.up l19 rfl
      cases hm
      rw [← ew19]
      exact Cw.ret (ret1 rfl (Res.mk (a2.trans (a11.trans a20)) ⟨v0_, rfl, o19.s⟩))
    · replace hm := bf hm hc18
      refine Cw.skip ?_
      refine Cw.seq ?_
      obtain ⟨K28, hK28, hm⟩ := jn_e hm
      refine Cw.join 18 33 [33] (fun l w => ∃ (y26 : Bool) (W27 : CW), W27.w = w ∧ Le [] W9 W27 ∧ l = [vB y26] ∧ K28 y26 = some r) ?_ ?_
      · rintro _ _ σ ⟨y26, W27, rfl, l27, rfl, hm⟩
        rw [hK28] at hm
        have a29 : Le LL _ _ := l27.nil
        have o30 := o12.up l27 rfl
        have o31 := o13.up l27 rfl
        have o32 := o14.up l27 rfl
        have o33 := o15.up l27 rfl
        have o34 := o16.up l27 rfl
        have b35 := b17.up l27 rfl
        refine Cw.cond (b := y26) rfl (fun hc36 => ?_) (fun hc36 => ?_)
        · replace hm := bt hm hc36
          refine Cw.seq ?_
          refine Cw.draw [] [(0, 0), (1, 0), (2, 0), (3, 0), (4, 0), (5, 0), (6, 0), (7, 0), (8, 1), (9, 0), (10, 1), (11, 3), (12, 0), (13, 0), (14, 3)] mixed (by kernel_rfl) fun W37 l37 => ?_
          have a38 : Le LL _ _ := l37.nil
          have o39 := o30.up l37 rfl
          have o40 := o31.up l37 rfl
          have o41 := o32.up l37 rfl
          have o42 := o33.up l37 rfl
          have o43 := o34.up l37 rfl
          have b44 := b35.up l37 rfl
          refine Mw.p rfl rfl (fun _ => R.mv (v := v0_) rfl) (Mw.p rfl rfl (fun _ => R.mv (v := vI (x0.length : Int)) rfl) (Mw.p rfl rfl (fun _ => R.sub rfl rfl) (Mw.p rfl rfl (fun _ => R.mv (v := v0_) rfl) (Mw.p rfl rfl (fun _ => R.mv (v := vI (x0.length : Int)) rfl) (Mw.p rfl rfl (fun _ => R.sub rfl rfl) ?_)))))
          obtain ⟨u45, e46, hm⟩ := ob hm
          refine Mw.p rfl rfl (fun _ => R.ix (α := Part) o39.rd e46 rfl rfl rfl) (Mw.p rfl rfl (fun _ => R.fa rfl) ?_)
          obtain ⟨v47, c48, r49⟩ := (Part.at1 (o39.rd.at_ e46)).cell rfl
          refine Mw.q rfl rfl (fun _ c => R.ld rfl rfl (cl_cell (Part.at1 (o39.rd.at_ e46)).1 rfl c48 c)) (Mw.p rfl rfl (fun _ => R.fa rfl) (Mw.q rfl rfl (fun _ c => R.ld (v := v1_1_) rfl rfl (b44.clc rfl rfl c)) ?_))
          obtain ⟨W50, ew50, l50, o50, oh50⟩ := Ow.take (α := Part) (β := List Str) (j := 8) (jf := 1) o39 e46 c48 rfl
          rw [← ew50]
          have a51 : Le LL _ _ := l50.sub rfl
          have o52 := o40.up l50 rfl
          have o53 := o41.up l50 rfl
          have o54 := o42.up l50 rfl
          have o55 := o43.up l50 rfl
          have b56 := b44.up l50 rfl
          obtain ⟨q57, e58, hm⟩ := ob hm
          refine Mw.l rfl rfl (T.appP (α := Str) o50 o52.rd rfl rfl e58) ?_
          rintro v59 _ ⟨W59, rfl, l59, o59⟩
          have a60 : Le LL _ _ := l59.sub rfl
          have o61 := o52.up l59 rfl
          have o62 := o53.up l59 rfl
          have o63 := o54.up l59 rfl
          have o64 := o55.up l59 rfl
          have b65 := b56.up l59 rfl
          obtain ⟨u66, e67, hm⟩ := ob hm
          refine Mw.p rfl rfl (fun _ => R.ix (α := Part) o39.rd e67 rfl rfl rfl) (Mw.p rfl rfl (fun _ => R.fa rfl) ?_)
          obtain ⟨q69, e70, hm⟩ := ob hm
          refine Mw.lu rfl (T.stH (α := Part) (β := List Str) (J := [8]) (oh50.up (l59.sub (M := [8]) rfl) rfl) o59.s e70 rfl rfl rfl rfl) ?_
          rintro _ _ ⟨W68, rfl, l68, o68⟩
          have a71 : Le LL _ _ := l68.sub rfl
          have o72 := o61.up l68 rfl
          have o73 := o62.up l68 rfl
          have o74 := o63.up l68 rfl
          have o75 := o64.up l68 rfl
          have b76 := b65.up l68 rfl
          refine Mw.nil ?_
          refine Cw.seq ?_
          refine Cw.region ?_
          refine Lw.r rfl (R.mv (v := v0_) rfl) (Lw.r rfl (R.as (v := v0_) rfl) ?_)
          refine Lw.nil ?_
          obtain ⟨W77, ew77, l77, o77⟩ := o68.dyeO 31
          have a78 : Le LL _ _ := l77.sub rfl
          have o79 := o72.up l77 rfl
          have o80 := o73.up l77 rfl
          have o81 := o74.up l77 rfl
          have o82 := o75.up l77 rfl
          have b83 := b76.up l77 rfl
          cases hm
          rw [← ew77]
          exact Cw.ret (ret1 rfl (Res.mk (a2.trans (a11.trans (a29.trans (a38.trans (a51.trans (a60.trans (a71.trans a78))))))) ⟨v0_, rfl, o77.s⟩))
        · replace hm := bf hm hc36
          refine Cw.skip ?_
          refine Cw.seq ?_
          refine Cw.region ?_
          refine Lw.r rfl (R.mv (v := v0_) rfl) (Lw.r rfl (R.lda (cs := [vB x1.Clash, v1_1_, v1_2_, v1_3_, v1_4_]) b35.cells rfl rfl) ?_)
          refine Lw.t rfl (T.bs 9 [.agg [vB x1.Clash, v1_1_, v1_2_, v1_3_, v1_4_].toArray] (cs := [vB x1.Clash, v1_1_, v1_2_, v1_3_, v1_4_]) rfl rfl (bsA rfl)) ?_
          rintro _ _ ⟨g84, W84, rfl, rfl, l84, b84⟩
          have a85 : Le LL _ _ := l84.nil
          have o86 := o30.up l84 rfl
          have o87 := o31.up l84 rfl
          have o88 := o32.up l84 rfl
          have o89 := o33.up l84 rfl
          have o90 := o34.up l84 rfl
          have b91 := b35.up l84 rfl
          obtain ⟨q92, e93, hm⟩ := ob hm
          refine Lw.t rfl (T.app1 (α := Part) (J := [3, 4, 5, 6]) (K' := []) o86 b84 (Part.own x1.Clash x1.Lines x1.Old x1.One x1.Two o87.s o88.s o89.s o90.s) rfl rfl e93) ?_
          rintro v94 _ ⟨W94, rfl, l94, o94⟩
          have a95 : Le LL _ _ := l94.sub rfl
          have b96 := b91.up l94 rfl
          have b97 := b84.up l94 rfl
          refine Lw.r rfl (R.as (v := v94) rfl) ?_
          refine Lw.nil ?_
          obtain ⟨W98, ew98, l98, o98⟩ := o94.dyeO 31
          have a99 : Le LL _ _ := l98.sub rfl
          have b100 := b96.up l98 rfl
          have b101 := b97.up l98 rfl
          cases hm
          rw [← ew98]
          exact Cw.ret (ret1 rfl (Res.mk (a2.trans (a11.trans (a29.trans (a85.trans (a95.trans a99))))) ⟨v94, rfl, o98.s⟩))
      · refine Cw.region ?_
        refine Lw.r rfl (R.mv (v := vI (x0.length : Int)) rfl) (Lw.r rfl (R.gt rfl rfl) (Lw.r rfl (R.mv (v := vB (decide ((0 : Int) < ((x0.length : Int) : Int)))) rfl) ?_))
        refine bsplit (decide ((0 : Int) < ((x0.length : Int) : Int))) (fun hc102 => ?_) (fun hc102 => ?_)
        · replace hm := bt hm hc102
          refine Lw.want' hc102 rfl rfl rfl rfl ?_
          refine Lw.r rfl (R.fa rfl) ?_
          refine Lw.want' hc102 rfl rfl rfl rfl ?_
          refine Lw.r rfl (R.ld (v := vB x1.Clash) rfl rfl (b17.cell rfl)) ?_
          refine Lw.want' hc102 rfl rfl rfl rfl ?_
          refine Lw.r rfl (R.not rfl) (Lw.r rfl (R.pk hc102 rfl (v := vB (!x1.Clash)) rfl) (Lw.r rfl (R.mv (v := vB (!x1.Clash)) rfl) ?_))
          refine bsplit (!x1.Clash) (fun hc103 => ?_) (fun hc103 => ?_)
          · replace hm := bt hm hc103
            refine Lw.want' hc103 rfl rfl rfl rfl ?_
            refine Lw.r rfl (R.mv (v := v0_) rfl) ?_
            refine Lw.want' hc103 rfl rfl rfl rfl ?_
            refine Lw.r rfl (R.mv (v := vI (x0.length : Int)) rfl) ?_
            refine Lw.want' hc103 rfl rfl rfl rfl ?_
            refine Lw.r rfl (R.sub rfl rfl) ?_
            refine Lw.want' hc103 rfl rfl rfl rfl ?_
            obtain ⟨u104, e105, hm⟩ := ob hm
            refine Lw.r rfl (R.ix (α := Part) o12.rd e105 rfl rfl rfl) ?_
            refine Lw.want' hc103 rfl rfl rfl rfl ?_
            refine Lw.r rfl (R.fa rfl) ?_
            refine Lw.want' hc103 rfl rfl rfl rfl ?_
            refine Lw.r rfl (R.ld rfl rfl (Part.at0 (o12.rd.at_ e105)).bool) ?_
            refine Lw.want' hc103 rfl rfl rfl rfl ?_
            refine Lw.r rfl (R.not rfl) (Lw.r rfl (R.pk hc103 rfl (v := vB (!u104.Clash)) rfl) ?_)
            refine Lw.nil ?_
            refine ⟨?_, ⟨(!u104.Clash), W9, rfl, Le.refl _ _, rfl, hm⟩⟩
            iterate 16 (refine Agree.up rfl ?_)
            exact Agree.refl _
          · replace hm := bf hm hc103
            refine Lw.pass' hc103 rfl rfl rfl rfl rfl rfl rfl ?_
            refine Lw.pass' hc103 rfl rfl rfl rfl rfl rfl rfl ?_
            refine Lw.pass' hc103 rfl rfl rfl rfl rfl rfl rfl ?_
            refine Lw.pass' hc103 rfl rfl rfl rfl rfl rfl rfl ?_
            refine Lw.pass' hc103 rfl rfl rfl rfl rfl rfl rfl ?_
            refine Lw.pass' hc103 rfl rfl rfl rfl rfl rfl rfl ?_
            refine Lw.pass' hc103 rfl rfl rfl rfl rfl rfl rfl ?_
            refine Lw.r rfl (R.pk hc103 rfl (v := vB false) rfl) ?_
            refine Lw.nil ?_
            refine ⟨?_, ⟨false, W9, rfl, Le.refl _ _, rfl, hm⟩⟩
            iterate 16 (refine Agree.up rfl ?_)
            exact Agree.refl _
        · replace hm := bf hm hc102
          refine Lw.pass' hc102 rfl rfl rfl rfl rfl rfl rfl ?_
          refine Lw.pass' hc102 rfl rfl rfl rfl rfl rfl rfl ?_
          refine Lw.pass' hc102 rfl rfl rfl rfl rfl rfl rfl ?_
          refine Lw.r rfl (R.pk hc102 rfl (v := vB false) rfl) (Lw.r rfl (R.mv (v := vB false) rfl) ?_)
          refine Lw.pass' rfl rfl rfl rfl rfl rfl rfl rfl ?_
          refine Lw.pass' rfl rfl rfl rfl rfl rfl rfl rfl ?_
          refine Lw.pass' rfl rfl rfl rfl rfl rfl rfl rfl ?_
          refine Lw.pass' rfl rfl rfl rfl rfl rfl rfl rfl ?_
          refine Lw.pass' rfl rfl rfl rfl rfl rfl rfl rfl ?_
          refine Lw.pass' rfl rfl rfl rfl rfl rfl rfl rfl ?_
          refine Lw.pass' rfl rfl rfl rfl rfl rfl rfl rfl ?_
          refine Lw.r rfl (R.pk rfl rfl (v := vB false) rfl) ?_
          refine Lw.nil ?_
          refine ⟨?_, ⟨false, W9, rfl, Le.refl _ _, rfl, hm⟩⟩
          iterate 16 (refine Agree.up rfl ?_)
          exact Agree.refl _
  · refine Cw.region ?_
    refine Lw.r rfl (R.fa rfl) (Lw.r rfl (R.ld (v := vB x1.Clash) rfl rfl (b1.cell rfl)) (Lw.r rfl (R.not rfl) (Lw.r rfl (R.mv (v := vB (!x1.Clash)) rfl) ?_)))
    refine bsplit (!x1.Clash) (fun hc106 => ?_) (fun hc106 => ?_)
    · replace hm := bt hm hc106
      refine Lw.want' hc106 rfl rfl rfl rfl ?_
      refine Lw.r rfl (R.fa rfl) ?_
      refine Lw.want' hc106 rfl rfl rfl rfl ?_
      refine Lw.r rfl (R.ld (v := v1_1_) rfl rfl (b1.cell rfl)) ?_
      refine Lw.want' hc106 rfl rfl rfl rfl ?_
      refine Lw.r rfl (lenR (xs := x1.Lines) o4.rd rfl) ?_
      refine Lw.want' hc106 rfl rfl rfl rfl ?_
      refine Lw.r rfl (R.eq rfl rfl) (Lw.r rfl (R.pk hc106 rfl (v := vB (((x1.Lines.length : Int) : Int) == (0 : Int))) rfl) ?_)
      refine Lw.nil ?_
      refine ⟨?_, ⟨(((x1.Lines.length : Int) : Int) == (0 : Int)), W1, rfl, Le.refl _ _, rfl, hm⟩⟩
      iterate 9 (refine Agree.up rfl ?_)
      exact Agree.refl _
    · replace hm := bf hm hc106
      refine Lw.pass' hc106 rfl rfl rfl rfl rfl rfl rfl ?_
      refine Lw.pass' hc106 rfl rfl rfl rfl rfl rfl rfl ?_
      refine Lw.pass' hc106 rfl rfl rfl rfl rfl rfl rfl ?_
      refine Lw.pass' hc106 rfl rfl rfl rfl rfl rfl rfl ?_
      refine Lw.r rfl (R.pk hc106 rfl (v := vB false) rfl) ?_
      refine Lw.nil ?_
      refine ⟨?_, ⟨false, W1, rfl, Le.refl _ _, rfl, hm⟩⟩
      iterate 9 (refine Agree.up rfl ?_)
      exact Agree.refl _

theorem p94 {W : CW} {K : List Nat} {x0 : List Vm.Part} {v0_ : Value} {x1 : Vm.Part} {v1_1_ : Value} {v1_2_ : Value} {v1_3_ : Value} {v1_4_ : Value} {k0 : Nat} {c0 : Nat} {c1 : Nat} {c2 : Nat} {c3 : Nat} {c4 : Nat} {r : (List Vm.Part)} (h0 : Ow W c0 [] [v0_] x0) (h1_1 : Ow W c1 [] [v1_1_] x1.Lines) (h1_2 : Ow W c2 [] [v1_2_] x1.Old) (h1_3 : Ow W c3 [] [v1_3_] x1.One) (h1_4 : Ow W c4 [] [v1_4_] x1.Two) (hJ : okJ K [c0, c1, c2, c3, c4] = true) (hm : Vm.spec_l3Put x0 x1 = some r) : CallR Try.prog 94 [v0_, .agg [vB x1.Clash, v1_1_, v1_2_, v1_3_, v1_4_].toArray].toArray W.w (Res W [c0, c1, c2, c3, c4] fun W' v => ∃ (u0 : Value), v = u0 ∧ Ow W' k0 [] [u0] r) :=
  CallR.adJ (J := [c0, c1, c2, c3, c4]) (fun c => bif Nat.beq c 0 then 0 else bif Nat.beq c 2 then c0 else bif Nat.beq c 3 then c1 else bif Nat.beq c 4 then c2 else bif Nat.beq c 5 then c3 else bif Nat.beq c 6 then c4 else bif Nat.beq c 31 then k0 else 0) (c94 (V := W.view K [c0, c1, c2, c3, c4]) (h0.viewJ 0 hJ) (h1_1.viewJ 1 hJ) (h1_2.viewJ 2 hJ) (h1_3.viewJ 3 hJ) (h1_4.viewJ 4 hJ) hm) fun _ _ ⟨u0, e, f0⟩ => ⟨u0, e, f0.one1.backN rfl⟩

theorem c67 {V : CW} {x0 : List Str} {v0_ : Value} {x1 : List Str} {v1_ : Value} {x2 : List Str} {v2_ : Value} {r : (List Vm.Part)} (h0 : Rd V [0] [v0_] x0) (h1 : Rd V [0] [v1_] x1) (h2 : Rd V [0] [v2_] x2) (hm : Vm.spec_l3Of x0 x1 x2 = some r) : CallR Try.prog 67 [v0_, v1_, v2_].toArray V.w (Res V LL fun Wf v => ∃ (u0 : Value), v = u0 ∧ OwS Wf LL [] [u0] r) := by
  unfold Vm.spec_l3Of at hm
  obtain ⟨W0, hW0⟩ : ∃ W, W = V := ⟨V, rfl⟩
  subst hW0
  refine CallR.of Try.func67 rfl rfl rfl rfl ?_
  refine Cw.seq ?_
  refine Cw.region ?_
  refine Lw.r rfl (R.as (v := .slice none 0 0) rfl) ?_
  refine Lw.nil ?_
  refine Cw.seq ?_
  refine Cw.region ?_
  refine Lw.t rfl (T.lit0 (α := Part) 2 []) ?_
  rintro v1 _ ⟨W1, rfl, l1, o1⟩
  have a2 : Le LL _ _ := l1.nil
  refine Lw.r rfl (R.as (v := v1) rfl) ?_
  refine Lw.nil ?_
  refine Cw.seq ?_
  refine Cw.region ?_
  refine Lw.r rfl (R.mv (v := v0_) rfl) (Lw.r rfl (R.mv (v := v1_) rfl) ?_)
  have s3 := h0.ul a2
  have s4 := h1.ul a2
  obtain ⟨z5, e6, hm⟩ := ob hm
  refine Lw.t rfl (T.call rfl (p93 (K := [0]) (k0 := 3) s3 s4 e6)) ?_
  rintro v0_7 _ ⟨W7, rfl, l7, ⟨_, rfl, f7_0⟩⟩
  have a8 : Le LL _ _ := l7.nil
  have o9 := o1.up l7 rfl
  have s10 := h1.ul (a2.trans a8)
  refine Lw.r rfl (R.mv (v := v1_) rfl) (Lw.r rfl (lenR (xs := x1) s10 rfl) ?_)
  refine Lw.t rfl (T.bs 4 [vI (x1.length : Int)] (cs := [vI (x1.length : Int)]) rfl rfl (bsv rfl)) ?_
  rintro _ _ ⟨g11, W11, rfl, rfl, l11, b11⟩
  have a12 : Le LL _ _ := l11.nil
  have o13 := o9.up l11 rfl
  have o14 := f7_0.up l11 rfl
  obtain ⟨q15, e16, hm⟩ := ob hm
  refine Lw.t rfl (T.app1S (α := Int) (K' := []) o14 b11 (rdI _) rfl rfl e16) ?_
  rintro v17 _ ⟨W17, rfl, l17, o17⟩
  have a18 : Le LL _ _ := l17.sub rfl
  have o19 := o13.up l17 rfl
  have b20 := b11.up l17 rfl
  refine Lw.r rfl (R.as (v := v17) rfl) ?_
  refine Lw.nil ?_
  refine Cw.seq ?_
  refine Cw.region ?_
  refine Lw.r rfl (R.mv (v := v0_) rfl) (Lw.r rfl (R.mv (v := v2_) rfl) ?_)
  have s21 := h0.ul (a2.trans (a8.trans (a12.trans a18)))
  have s22 := h2.ul (a2.trans (a8.trans (a12.trans a18)))
  obtain ⟨z23, e24, hm⟩ := ob hm
  refine Lw.t rfl (T.call rfl (p93 (K := [0]) (k0 := 5) s21 s22 e24)) ?_
  rintro v0_25 _ ⟨W25, rfl, l25, ⟨_, rfl, f25_0⟩⟩
  have a26 : Le LL _ _ := l25.nil
  have o27 := o19.up l25 rfl
  have o28 := o17.up l25 rfl
  have b29 := b20.up l25 rfl
  have s30 := h2.ul (a2.trans (a8.trans (a12.trans (a18.trans a26))))
  refine Lw.r rfl (R.mv (v := v2_) rfl) (Lw.r rfl (lenR (xs := x2) s30 rfl) ?_)
  refine Lw.t rfl (T.bs 6 [vI (x2.length : Int)] (cs := [vI (x2.length : Int)]) rfl rfl (bsv rfl)) ?_
  rintro _ _ ⟨g31, W31, rfl, rfl, l31, b31⟩
  have a32 : Le LL _ _ := l31.nil
  have o33 := o27.up l31 rfl
  have o34 := o28.up l31 rfl
  have o35 := f25_0.up l31 rfl
  have b36 := b29.up l31 rfl
  obtain ⟨q37, e38, hm⟩ := ob hm
  refine Lw.t rfl (T.app1S (α := Int) (K' := []) o35 b31 (rdI _) rfl rfl e38) ?_
  rintro v39 _ ⟨W39, rfl, l39, o39⟩
  have a40 : Le LL _ _ := l39.sub rfl
  have o41 := o33.up l39 rfl
  have o42 := o34.up l39 rfl
  have b43 := b36.up l39 rfl
  have b44 := b31.up l39 rfl
  refine Lw.r rfl (R.as (v := v39) rfl) ?_
  refine Lw.nil ?_
  refine Cw.seq ?_
  refine Cw.region ?_
  refine Lw.r rfl (R.as (v := vI 0) rfl) ?_
  refine Lw.nil ?_
  refine Cw.seq ?_
  refine Cw.region ?_
  refine Lw.r rfl (R.as (v := vI 0) rfl) ?_
  refine Lw.nil ?_
  refine Cw.seq ?_
  refine Cw.region ?_
  refine Lw.r rfl (R.as (v := vI 0) rfl) ?_
  refine Lw.nil ?_
  refine Cw.seq ?_
  refine Cw.seq ?_
  refine Cw.region ?_
  refine Lw.r rfl (R.as (v := vI 0) rfl) ?_
  refine Lw.nil ?_
  refine Cw.block ?_
  obtain ⟨K53, hK53, hm⟩ := jn_e hm
  refine Cw.loop 29 91 [7, 10, 11, 12, 13] (fun m l w => ∃ (y45 : List Vm.Part) (y48 : Int) (y49 : Int) (y50 : Int) (y51 : Int) (v46 : Value) (W52 : CW), W52.w = w ∧ Le [2, 7, 8, 9, 10, 11, 12, 13, 14, 15, 16] W39 W52 ∧ l = [v46, vI y48, vI y49, vI y50, vI y51] ∧ Ow W52 2 [] [v46] y45 ∧ Vm.spec_l3Of_l1 x0 x1 x2 q15 q37 K53 m y45 y48 y49 y50 y51 = some r) (((q15.length : Int) - 0).toNat + 1) ⟨([] : List Part), 0, 0, 0, 0, v1, W39, rfl, Le.refl _ _, rfl, o41, hm⟩ ?_
  rintro m54 _ _ σ ⟨y45, y48, y49, y50, y51, v46, W52, rfl, l52, rfl, o47, hm⟩
  obtain _ | m54 := m54
  · cases hm
  unfold Vm.spec_l3Of_l1 at hm
  have a55 : Le LL _ _ := l52.sub rfl
  have o56 := o42.up l52 rfl
  have o57 := o39.up l52 rfl
  have b58 := b43.up l52 rfl
  have b59 := b44.up l52 rfl
  refine Cw.seq ?_
  refine Cw.seq ?_
  refine Cw.region ?_
  refine Lw.r rfl (R.mv (v := vI y51) rfl) (Lw.r rfl (R.mv (v := v17) rfl) (Lw.r rfl (lenR (xs := q15) o56.rd rfl) (Lw.r rfl (R.lt rfl rfl) ?_)))
  refine Lw.nil ?_
  refine Cw.cond (b := decide ((y51 : Int) < ((q15.length : Int) : Int))) rfl (fun hc60 => ?_) (fun hc60 => ?_)
  · replace hm := bt hm hc60
    refine Cw.skip ?_
    obtain ⟨K68, hK68, hm⟩ := jn_e hm
    refine Cw.join 35 91 [7, 10, 11, 12] (fun l w => ∃ (y61 : List Vm.Part) (y64 : Int) (y65 : Int) (y66 : Int) (v62 : Value) (W67 : CW), W67.w = w ∧ Le [2, 7, 8, 9, 10, 11, 12, 13, 14, 15, 16] W52 W67 ∧ l = [v62, vI y64, vI y65, vI y66] ∧ Ow W67 2 [] [v62] y61 ∧ K68 y61 y64 y65 y66 = some r) ?_ ?_
    · rintro _ _ σ ⟨y61, y64, y65, y66, v62, W67, rfl, l67, rfl, o63, hm⟩
      rw [hK68] at hm
      have a69 : Le LL _ _ := l67.sub rfl
      have o70 := o56.up l67 rfl
      have o71 := o57.up l67 rfl
      have b72 := b58.up l67 rfl
      have b73 := b59.up l67 rfl
      refine Cw.region ?_
      refine Lw.r rfl (R.mv (v := vI y51) rfl) (Lw.r rfl (R.add rfl rfl) (Lw.r rfl (R.as (v := vI (w64 (y51 + 1))) rfl) ?_))
      refine Lw.nil ?_
      refine ⟨?_, m54, Nat.lt_succ_self m54, ⟨y61, y64, y65, y66, w64 (y51 + 1), v62, W67, rfl, (l52.trans l67), rfl, o63, hm⟩⟩
      iterate 3 (refine Agree.up rfl ?_)
      iterate 4 (refine Agree.up rfl ?_)
      refine Agree.ov0 rfl ?_
      iterate 4 (refine Agree.up rfl ?_)
      iterate 5 (refine Agree.up rfl ?_)
      exact Agree.base
    · refine Cw.block ?_
      refine Cw.seq ?_
      obtain ⟨K76, hK76, hm⟩ := jn_e hm
      refine Cw.join 35 46 [46] (fun l w => ∃ (y74 : Bool) (W75 : CW), W75.w = w ∧ Le [] W52 W75 ∧ l = [vB y74] ∧ K76 y74 = some r) ?_ ?_
      · rintro _ _ σ ⟨y74, W75, rfl, l75, rfl, hm⟩
        rw [hK76] at hm
        have a77 : Le LL _ _ := l75.nil
        have o78 := o47.up l75 rfl
        have o79 := o56.up l75 rfl
        have o80 := o57.up l75 rfl
        have b81 := b58.up l75 rfl
        have b82 := b59.up l75 rfl
        refine Cw.cond (b := y74) rfl (fun hc83 => ?_) (fun hc83 => ?_)
        · replace hm := bt hm hc83
          refine Cw.exit ?_
          refine ⟨?_, ⟨y45, y48, y49, y50, v46, W75, rfl, (l75.sub rfl), rfl, o78, hm⟩⟩
          iterate 1 (refine Agree.up rfl ?_)
          refine Agree.ov0 rfl ?_
          exact Agree.refl _
        · replace hm := bf hm hc83
          refine Cw.skip ?_
          refine Cw.seq ?_
          refine Cw.draw [2, 7, 8, 9, 10] [(0, 0), (1, 0), (2, 0), (3, 0), (4, 0), (5, 0), (6, 0), (7, 0), (8, 0), (9, 0), (10, 1), (11, 0), (12, 0), (13, 0), (14, 0), (15, 0), (16, 0), (17, 1), (18, 0), (19, 2), (20, 2), (21, 0)] mixed (by kernel_rfl) fun W84 l84 => ?_
          have a85 : Le LL _ _ := l84.nil
          have o86 := o78.up l84 rfl
          have o87 := o79.up l84 rfl
          have o88 := o80.up l84 rfl
          have b89 := b81.up l84 rfl
          have b90 := b82.up l84 rfl
          refine Mw.p rfl rfl (fun _ => R.mv (v := v46) rfl) (Mw.p rfl rfl (fun _ => R.mv (v := v0_) rfl) (Mw.p rfl rfl (fun _ => R.mv (v := vI y48) rfl) (Mw.p rfl rfl (fun _ => R.mv (v := vI y51) rfl) ?_)))
          obtain ⟨q91, e92, hm⟩ := ob hm
          have s93 := h0.ul (a2.trans (a8.trans (a12.trans (a18.trans (a26.trans (a32.trans (a40.trans (a55.trans (a77.trans a85)))))))))
          have r95 := s93.cutV e92
          refine Mw.p rfl rfl (fun _ => R.sl s93 e92 rfl (.inr rfl) (.inr rfl)) (Mw.p rfl rfl (fun _ => R.mv (v := v1_) rfl) (Mw.p rfl rfl (fun _ => R.mv (v := vI y49) rfl) (Mw.p rfl rfl (fun _ => R.mv (v := v17) rfl) (Mw.p rfl rfl (fun _ => R.mv (v := vI y51) rfl) ?_))))
          obtain ⟨u96, e97, hm⟩ := ob hm
          refine Mw.p rfl rfl (fun _ => R.ix (α := Int) o87.rd e97 rfl rfl rfl) (Mw.q rfl rfl (fun _ c => R.ld rfl rfl (cl_cell (o87.rd.at_ e97).1 rfl (o87.rd.at_ e97).int c)) ?_)
          obtain ⟨q98, e99, hm⟩ := ob hm
          have s100 := h1.ul (a2.trans (a8.trans (a12.trans (a18.trans (a26.trans (a32.trans (a40.trans (a55.trans (a77.trans a85)))))))))
          have r102 := s100.cutV e99
          refine Mw.p rfl rfl (fun _ => R.sl s100 e99 rfl (.inr rfl) (.inr rfl)) (Mw.p rfl rfl (fun _ => R.mv (v := v2_) rfl) (Mw.p rfl rfl (fun _ => R.mv (v := vI y50) rfl) (Mw.p rfl rfl (fun _ => R.mv (v := v39) rfl) (Mw.p rfl rfl (fun _ => R.mv (v := vI y51) rfl) ?_))))
          obtain ⟨u103, e104, hm⟩ := ob hm
          refine Mw.p rfl rfl (fun _ => R.ix (α := Int) o88.rd e104 rfl rfl rfl) (Mw.q rfl rfl (fun _ c => R.ld rfl rfl (cl_cell (o88.rd.at_ e104).1 rfl (o88.rd.at_ e104).int c)) ?_)
          obtain ⟨q105, e106, hm⟩ := ob hm
          have s107 := h2.ul (a2.trans (a8.trans (a12.trans (a18.trans (a26.trans (a32.trans (a40.trans (a55.trans (a77.trans a85)))))))))
          have r109 := s107.cutV e106
          refine Mw.p rfl rfl (fun _ => R.sl s107 e106 rfl (.inr rfl) (.inr rfl)) ?_
          obtain ⟨z110, e111, hm⟩ := ob hm
          refine Mw.t rfl rfl (T.call rfl (p95 (K := [0]) (k0 := 7) (k1 := 8) (k2 := 9) (k3 := 10) r95 r102 r109 e111)) ?_
          rintro _ _ ⟨W112, rfl, l112, ⟨v0_1_112, v0_2_112, v0_3_112, v0_4_112, rfl, f112_0, f112_1, f112_2, f112_3⟩⟩
          have a113 : Le LL _ _ := l112.nil
          have o114 := o86.up l112 rfl
          have o115 := o87.up l112 rfl
          have o116 := o88.up l112 rfl
          have b117 := b89.up l112 rfl
          have b118 := b90.up l112 rfl
          refine ⟨⟨_, rfl, (l112.sub (M := [2, 7, 8, 9, 10]) rfl)⟩, ?_⟩
          obtain ⟨z119, e120, hm⟩ := ob hm
          refine Mw.t rfl rfl (T.call rfl (p94 (K := [0]) (k0 := 11) (c0 := 2) (c1 := 7) (c2 := 8) (c3 := 9) (c4 := 10) (x1 := (Vm.Part.mk z110.Clash z110.Lines z110.Old z110.One z110.Two)) o114 f112_0 f112_1 f112_2 f112_3 rfl e120)) ?_
          rintro v0_121 _ ⟨W121, rfl, l121, ⟨_, rfl, f121_0⟩⟩
          have a122 : Le LL _ _ := l121.sub rfl
          have o123 := o115.up l121 rfl
          have o124 := o116.up l121 rfl
          have b125 := b117.up l121 rfl
          have b126 := b118.up l121 rfl
          refine ⟨⟨_, rfl, ((l112.sub (M := [2, 7, 8, 9, 10]) rfl).trans (l121.sub (M := [2, 7, 8, 9, 10]) rfl))⟩, ?_⟩
          refine Mw.p rfl rfl (fun _ => R.as (v := v0_121) rfl) ?_
          refine Mw.nil ?_
          obtain ⟨K131, hK131, hm⟩ := jn_e hm
          refine Cw.join 68 79 [7] (fun l w => ∃ (y127 : List Vm.Part) (v128 : Value) (W130 : CW), W130.w = w ∧ Le [11, 12, 13, 14, 15, 16] W121 W130 ∧ l = [v128] ∧ Ow W130 11 [] [v128] y127 ∧ K131 y127 = some r) ?_ ?_
          · rintro _ _ σ ⟨y127, v128, W130, rfl, l130, rfl, o129, hm⟩
            rw [hK131] at hm
            have a132 : Le LL _ _ := l130.sub rfl
            have o133 := o123.up l130 rfl
            have o134 := o124.up l130 rfl
            have b135 := b125.up l130 rfl
            have b136 := b126.up l130 rfl
            refine Cw.seq ?_
            refine Cw.region ?_
            refine Lw.r rfl (R.mv (v := vI y51) rfl) (Lw.r rfl (R.add rfl rfl) (Lw.r rfl (R.as (v := vI (w64 (y51 + 1))) rfl) ?_))
            refine Lw.nil ?_
            refine Cw.seq ?_
            refine Cw.region ?_
            refine Lw.r rfl (R.mv (v := v17) rfl) (Lw.r rfl (R.mv (v := vI y51) rfl) ?_)
            obtain ⟨u137, e138, hm⟩ := ob hm
            refine Lw.r rfl (R.ix (α := Int) o133.rd e138 rfl rfl rfl) (Lw.r rfl (R.ld rfl rfl (o133.rd.at_ e138).int) (Lw.r rfl (R.add rfl rfl) (Lw.r rfl (R.as (v := vI (w64 (u137 + 1))) rfl) ?_)))
            refine Lw.nil ?_
            refine Cw.region ?_
            refine Lw.r rfl (R.mv (v := v39) rfl) (Lw.r rfl (R.mv (v := vI y51) rfl) ?_)
            obtain ⟨u139, e140, hm⟩ := ob hm
            refine Lw.r rfl (R.ix (α := Int) o134.rd e140 rfl rfl rfl) (Lw.r rfl (R.ld rfl rfl (o134.rd.at_ e140).int) (Lw.r rfl (R.add rfl rfl) (Lw.r rfl (R.as (v := vI (w64 (u139 + 1))) rfl) ?_)))
            refine Lw.nil ?_
            obtain ⟨W141, ew141, l141, o141⟩ := o129.dyeO 2
            have a142 : Le LL _ _ := l141.sub rfl
            have o143 := o133.up l141 rfl
            have o144 := o134.up l141 rfl
            have b145 := b135.up l141 rfl
            have b146 := b136.up l141 rfl
            refine ⟨?_, ⟨y127, w64 (y51 + 1), w64 (u137 + 1), w64 (u139 + 1), v128, W141, ew141, ((l75.sub rfl).trans ((l84.sub rfl).trans ((l112.sub rfl).trans ((l121.sub rfl).trans ((l130.sub rfl).trans (l141.sub rfl)))))), rfl, o141, hm⟩⟩
            iterate 15 (refine Agree.up rfl ?_)
            iterate 1 (refine Agree.up rfl ?_)
            refine Agree.ov0 rfl ?_
            iterate 22 (refine Agree.up rfl ?_)
            iterate 1 (refine Agree.up rfl ?_)
            refine Agree.ov0 rfl ?_
            exact Agree.refl _
          · refine Cw.seq ?_
            refine Cw.region ?_
            have s147 := h0.ul (a2.trans (a8.trans (a12.trans (a18.trans (a26.trans (a32.trans (a40.trans (a55.trans (a77.trans (a85.trans (a113.trans a122)))))))))))
            refine Lw.r rfl (R.mv (v := vI y51) rfl) (Lw.r rfl (R.mv (v := v0_) rfl) (Lw.r rfl (lenR (xs := x0) s147 rfl) (Lw.r rfl (R.lt rfl rfl) ?_)))
            refine Lw.nil ?_
            refine Cw.cond (b := decide ((y51 : Int) < ((x0.length : Int) : Int))) rfl (fun hc148 => ?_) (fun hc148 => ?_)
            · replace hm := bt hm hc148
              refine Cw.region ?_
              refine Lw.r rfl (R.mv (v := v0_121) rfl) (Lw.r rfl (R.mv (v := v0_) rfl) (Lw.r rfl (R.mv (v := vI y51) rfl) ?_))
              obtain ⟨u149, e150, hm⟩ := ob hm
              refine Lw.r rfl (R.ix (α := Str) s147 e150 rfl rfl rfl) (Lw.r rfl (R.ld rfl rfl (s147.at_ e150).str) ?_)
              refine Lw.t rfl (T.bsS (α := Str) (xs := [u149]) 12 [] (W := W121) [vS u149] (Each.cons ((rdS _)) Each.nil) rfl) ?_
              rintro v151 _ ⟨W151, rfl, l151, o151⟩
              have a152 : Le LL _ _ := l151.nil
              have o153 := o123.up l151 rfl
              have o154 := o124.up l151 rfl
              have o155 := f121_0.up l151 rfl
              have b156 := b125.up l151 rfl
              have b157 := b126.up l151 rfl
              refine Lw.r rfl (R.bd (zs := [vB false, .slice none 0 0, .slice none 0 0, .slice none 0 0, .slice none 0 0]) (cs := [vB false, v151, .slice none 0 0, .slice none 0 0, .slice none 0 0]) [(1, v151)] rfl rfl rfl (bp_cons o151.oc rfl bp_nil)) ?_
              obtain ⟨z158, e159, hm⟩ := ob hm
              refine Lw.t rfl (T.call rfl (p94 (K := [0]) (k0 := 16) (c0 := 11) (c1 := 12) (c2 := 13) (c3 := 14) (c4 := 15) (x1 := (Vm.Part.mk false ([u149] : List Str) ([] : List Str) ([] : List Str) ([] : List Str))) o155 o151 (owN 13 []) (owN 14 []) (owN 15 []) rfl e159)) ?_
              rintro v0_160 _ ⟨W160, rfl, l160, ⟨_, rfl, f160_0⟩⟩
              have a161 : Le LL _ _ := l160.sub rfl
              have o162 := o153.up l160 rfl
              have o163 := o154.up l160 rfl
              have b164 := b156.up l160 rfl
              have b165 := b157.up l160 rfl
              refine Lw.r rfl (R.as (v := v0_160) rfl) ?_
              refine Lw.nil ?_
              obtain ⟨W166, ew166, l166, o166⟩ := f160_0.dyeO 11
              have a167 : Le LL _ _ := l166.sub rfl
              have o168 := o162.up l166 rfl
              have o169 := o163.up l166 rfl
              have b170 := b164.up l166 rfl
              have b171 := b165.up l166 rfl
              refine ⟨?_, ⟨z158, v0_160, W166, ew166, ((l151.sub rfl).trans ((l160.sub rfl).trans (l166.sub rfl))), rfl, o166, hm⟩⟩
              iterate 13 (refine Agree.up rfl ?_)
              exact Agree.refl _
            · replace hm := bf hm hc148
              refine Cw.skip ?_
              refine ⟨?_, ⟨z119, v0_121, W121, rfl, Le.refl _ _, rfl, f121_0, hm⟩⟩
              iterate 4 (refine Agree.up rfl ?_)
              exact Agree.refl _
      · refine Cw.region ?_
        refine Lw.r rfl (R.mv (v := v17) rfl) (Lw.r rfl (R.mv (v := vI y51) rfl) ?_)
        obtain ⟨u172, e173, hm⟩ := ob hm
        refine Lw.r rfl (R.ix (α := Int) o56.rd e173 rfl rfl rfl) (Lw.r rfl (R.ld rfl rfl (o56.rd.at_ e173).int) (Lw.r rfl (R.lt rfl rfl) (Lw.r rfl (R.mv (v := vB (decide ((u172 : Int) < (0 : Int)))) rfl) ?_)))
        refine bsplit (decide ((u172 : Int) < (0 : Int))) (fun hc174 => ?_) (fun hc174 => ?_)
        · replace hm := bt hm hc174
          refine Lw.pass' hc174 rfl rfl rfl rfl rfl rfl rfl ?_
          refine Lw.pass' hc174 rfl rfl rfl rfl rfl rfl rfl ?_
          refine Lw.pass' hc174 rfl rfl rfl rfl rfl rfl rfl ?_
          refine Lw.pass' hc174 rfl rfl rfl rfl rfl rfl rfl ?_
          refine Lw.pass' hc174 rfl rfl rfl rfl rfl rfl rfl ?_
          refine Lw.r rfl (R.pk hc174 rfl (v := vB true) rfl) ?_
          refine Lw.nil ?_
          refine ⟨?_, ⟨true, W52, rfl, Le.refl _ _, rfl, hm⟩⟩
          iterate 12 (refine Agree.up rfl ?_)
          exact Agree.refl _
        · replace hm := bf hm hc174
          refine Lw.want' hc174 rfl rfl rfl rfl ?_
          refine Lw.r rfl (R.mv (v := v39) rfl) ?_
          refine Lw.want' hc174 rfl rfl rfl rfl ?_
          refine Lw.r rfl (R.mv (v := vI y51) rfl) ?_
          refine Lw.want' hc174 rfl rfl rfl rfl ?_
          obtain ⟨u175, e176, hm⟩ := ob hm
          refine Lw.r rfl (R.ix (α := Int) o57.rd e176 rfl rfl rfl) ?_
          refine Lw.want' hc174 rfl rfl rfl rfl ?_
          refine Lw.r rfl (R.ld rfl rfl (o57.rd.at_ e176).int) ?_
          refine Lw.want' hc174 rfl rfl rfl rfl ?_
          refine Lw.r rfl (R.lt rfl rfl) (Lw.r rfl (R.pk hc174 rfl (v := vB (decide ((u175 : Int) < (0 : Int)))) rfl) ?_)
          refine Lw.nil ?_
          refine ⟨?_, ⟨decide ((u175 : Int) < (0 : Int)), W52, rfl, Le.refl _ _, rfl, hm⟩⟩
          iterate 12 (refine Agree.up rfl ?_)
          exact Agree.refl _
  · replace hm := bf hm hc60
    refine Cw.exit ?_
    rw [hK53] at hm
    refine Cw.seq ?_
    refine Cw.region ?_
    refine Lw.r rfl (R.mv (v := v46) rfl) (Lw.r rfl (R.as (v := v46) rfl) ?_)
    refine Lw.nil ?_
    cases hm
    exact Cw.ret (ret1 rfl (Res.mk (a2.trans (a8.trans (a12.trans (a18.trans (a26.trans (a32.trans (a40.trans a55))))))) ⟨v46, rfl, o47.s.sub rfl rfl⟩))

theorem p67 {W : CW} {K : List Nat} {x0 : List Str} {v0_ : Value} {x1 : List Str} {v1_ : Value} {x2 : List Str} {v2_ : Value} {k0 : Nat} {r : (List Vm.Part)} (h0 : Rd W K [v0_] x0) (h1 : Rd W K [v1_] x1) (h2 : Rd W K [v2_] x2) (hm : Vm.spec_l3Of x0 x1 x2 = some r) : CallR Try.prog 67 [v0_, v1_, v2_].toArray W.w (Res W [] fun W' v => ∃ (u0 : Value), v = u0 ∧ Ow W' k0 [] [u0] r) :=
  (c67 (V := W.view K []) (h0.view _) (h1.view _) (h2.view _) hm).ad (fk k0) fun _ _ ⟨u0, e, f0⟩ => ⟨u0, e, f0.back (fk_LL _)⟩

theorem c68 {V : CW} {x0 : List Vm.Memo} {v0_ : Value} {x1 : List Str} {v1_ : Value} {x2 : List Str} {v2_ : Value} {x3 : List Str} {v3_ : Value} {r : (List Str) × Bool} (h0 : Rd V [0] [v0_] x0) (h1 : Rd V [0] [v1_] x1) (h2 : Rd V [0] [v2_] x2) (h3 : Rd V [0] [v3_] x3) (hm : Vm.spec_l18Find x0 x1 x2 x3 = some r) : CallR Try.prog 68 [v0_, v1_, v2_, v3_].toArray V.w (Res V LL fun Wf v => ∃ (u0 : Value), v = .tuple [u0, vB r.2].toArray ∧ Rd Wf [0] [u0] r.1) := by
  unfold Vm.spec_l18Find at hm
  obtain ⟨W0, hW0⟩ : ∃ W, W = V := ⟨V, rfl⟩
  subst hW0
  refine CallR.of Try.func68 rfl rfl rfl rfl ?_
  refine Cw.seq ?_
  refine Cw.region ?_
  refine Lw.r rfl (R.as (v := .slice none 0 0) rfl) (Lw.r rfl (R.as (v := vB false) rfl) ?_)
  refine Lw.nil ?_
  refine Cw.seq ?_
  refine Cw.seq ?_
  refine Cw.region ?_
  refine Lw.r rfl (R.as (v := vI 0) rfl) ?_
  refine Lw.nil ?_
  refine Cw.block ?_
  obtain ⟨K7, hK7, hm⟩ := jn_e hm
  refine Cw.loop 11 29 [8, 9, 10] (fun m l w => ∃ (y1 : List Str) (y4 : Bool) (y5 : Int) (v2 : Value) (W6 : CW), W6.w = w ∧ Le [] W0 W6 ∧ l = [v2, vB y4, vI y5] ∧ Ow W6 2 [] [v2] y1 ∧ Vm.spec_l18Find_l1 x0 x1 x2 x3 K7 m y1 y4 y5 = some r) (((x0.length : Int) - 0).toNat + 1) ⟨([] : List Str), false, 0, .slice none 0 0, W0, rfl, Le.refl _ _, rfl, owN 2 [], hm⟩ ?_
  rintro m8 _ _ σ ⟨y1, y4, y5, v2, W6, rfl, l6, rfl, o3, hm⟩
  obtain _ | m8 := m8
  · cases hm
  unfold Vm.spec_l18Find_l1 at hm
  have a9 : Le LL _ _ := l6.nil
  refine Cw.seq ?_
  refine Cw.seq ?_
  refine Cw.region ?_
  have s10 := h0.ul a9
  refine Lw.r rfl (R.mv (v := vI y5) rfl) (Lw.r rfl (R.mv (v := v0_) rfl) (Lw.r rfl (lenR (xs := x0) s10 rfl) (Lw.r rfl (R.lt rfl rfl) ?_)))
  refine Lw.nil ?_
  refine Cw.cond (b := decide ((y5 : Int) < ((x0.length : Int) : Int))) rfl (fun hc11 => ?_) (fun hc11 => ?_)
  · replace hm := bt hm hc11
    refine Cw.skip ?_
    refine Cw.seq ?_
    refine Cw.block ?_
    refine Cw.seq ?_
    refine Cw.region ?_
    refine Lw.r rfl (R.mv (v := v0_) rfl) (Lw.r rfl (R.mv (v := vI y5) rfl) ?_)
    obtain ⟨u12, e13, hm⟩ := ob hm
    refine Lw.r rfl (R.ix (α := Memo) s10 e13 rfl rfl rfl) ?_
    obtain ⟨x14, c15, _, r16⟩ := (s10.at_ e13).cells
    obtain ⟨v17, v19, v21, v23, rfl, r18, r20, r22, r24⟩ := Memo.split r16
    refine Lw.r rfl (R.lda c15 rfl rfl) (Lw.r rfl (R.mv (v := v1_) rfl) (Lw.r rfl (R.mv (v := v2_) rfl) (Lw.r rfl (R.mv (v := v3_) rfl) ?_)))
    have s25 := h1.ul a9
    have s26 := h2.ul a9
    have s27 := h3.ul a9
    obtain ⟨z28, e29, hm⟩ := ob hm
    refine Lw.t rfl (T.call rfl (p63 (K := [0])  (Memo.rd (K := [0]) u12.Old u12.One u12.Two u12.Done r18 r20 r22 r24) s25 s26 s27 e29)) ?_
    rintro _ _ ⟨W30, rfl, l30, rfl⟩
    have a31 : Le LL _ _ := l30.nil
    have o32 := o3.up l30 rfl
    refine Lw.nil ?_
    refine Cw.cond (b := z28) rfl (fun hc33 => ?_) (fun hc33 => ?_)
    · replace hm := bt hm hc33
      refine Cw.seq ?_
      refine Cw.region ?_
      refine Lw.r rfl (R.mv (v := v0_) rfl) (Lw.r rfl (R.mv (v := vI y5) rfl) ?_)
      obtain ⟨u34, e35, hm⟩ := ob hm
      have s36 := h0.ul (a9.trans a31)
      refine Lw.r rfl (R.ix (α := Memo) s36 e35 rfl rfl rfl) (Lw.r rfl (R.fa rfl) ?_)
      obtain ⟨v37, c38, r39⟩ := (Memo.at3 (s36.at_ e35)).cell rfl
      refine Lw.r rfl (R.ld rfl rfl c38) (Lw.r rfl (R.as (v := v37) rfl) (Lw.r rfl (R.as (v := vB true) rfl) ?_))
      refine Lw.nil ?_
      cases hm
      exact Cw.ret (ret2 rfl rfl (Res.mk (a9.trans a31) ⟨v37, rfl, r39⟩))
    · replace hm := bf hm hc33
      refine Cw.skip ?_
      refine Cw.region ?_
      refine Lw.r rfl (R.mv (v := vI y5) rfl) (Lw.r rfl (R.add rfl rfl) (Lw.r rfl (R.as (v := vI (w64 (y5 + 1))) rfl) ?_))
      refine Lw.nil ?_
      refine ⟨?_, m8, Nat.lt_succ_self m8, ⟨y1, y4, w64 (y5 + 1), v2, W30, rfl, (l6.trans l30), rfl, o32, hm⟩⟩
      iterate 15 (refine Agree.up rfl ?_)
      iterate 3 (refine Agree.up rfl ?_)
      exact Agree.base
  · replace hm := bf hm hc11
    refine Cw.exit ?_
    rw [hK7] at hm
    refine Cw.seq ?_
    refine Cw.region ?_
    refine Lw.r rfl (R.as (v := .slice none 0 0) rfl) (Lw.r rfl (R.as (v := vB false) rfl) ?_)
    refine Lw.nil ?_
    cases hm
    exact Cw.ret (ret2 rfl rfl (Res.mk a9 ⟨.slice none 0 0, rfl, (rdN (K := [0]))⟩))

theorem p68 {W : CW} {K : List Nat} {x0 : List Vm.Memo} {v0_ : Value} {x1 : List Str} {v1_ : Value} {x2 : List Str} {v2_ : Value} {x3 : List Str} {v3_ : Value} {r : (List Str) × Bool} (h0 : Rd W K [v0_] x0) (h1 : Rd W K [v1_] x1) (h2 : Rd W K [v2_] x2) (h3 : Rd W K [v3_] x3) (hm : Vm.spec_l18Find x0 x1 x2 x3 = some r) : CallR Try.prog 68 [v0_, v1_, v2_, v3_].toArray W.w (Res W [] fun W' v => ∃ (u0 : Value), v = .tuple [u0, vB r.2].toArray ∧ Rd W' (0 :: K) [u0] r.1) :=
  (c68 (V := W.view K []) (h0.view _) (h1.view _) (h2.view _) (h3.view _) hm).ad (fk 0) fun _ _ ⟨u0, e, f0⟩ => ⟨u0, e, f0.back rfl⟩

theorem c28 {V : CW} {x0 : List Vm.Memo} {v0_ : Value} {x1 : List Str} {v1_ : Value} {x2 : List Str} {v2_ : Value} {x3 : List Str} {v3_ : Value} {r : Int} (h0 : Rd V [0] [v0_] x0) (h1 : Rd V [0] [v1_] x1) (h2 : Rd V [0] [v2_] x2) (h3 : Rd V [0] [v3_] x3) (hm : Vm.spec_MemoLeft x0 x1 x2 x3 = some r) : CallR Try.prog 28 [v0_, v1_, v2_, v3_].toArray V.w (Res V LL fun Wf v => v = vI r) := by
  unfold Vm.spec_MemoLeft at hm
  obtain ⟨W0, hW0⟩ : ∃ W, W = V := ⟨V, rfl⟩
  subst hW0
  refine CallR.of Try.func28 rfl rfl rfl rfl ?_
  refine Cw.seq ?_
  refine Cw.region ?_
  refine Lw.r rfl (R.as (v := vI 0) rfl) ?_
  refine Lw.nil ?_
  refine Cw.seq ?_
  refine Cw.region ?_
  refine Lw.r rfl (R.as (v := vI 0) rfl) ?_
  refine Lw.nil ?_
  refine Cw.seq ?_
  obtain ⟨K3, hK3, hm⟩ := jn_e hm
  refine Cw.join 14 31 [31] (fun l w => ∃ (y1 : Bool) (W2 : CW), W2.w = w ∧ Le [] W0 W2 ∧ l = [vB y1] ∧ K3 y1 = some r) ?_ ?_
  · rintro _ _ σ ⟨y1, W2, rfl, l2, rfl, hm⟩
    rw [hK3] at hm
    have a4 : Le LL _ _ := l2.nil
    refine Cw.cond (b := y1) rfl (fun hc5 => ?_) (fun hc5 => ?_)
    · replace hm := bt hm hc5
      refine Cw.seq ?_
      refine Cw.region ?_
      refine Lw.r rfl (R.as (v := vI (-1)) rfl) ?_
      refine Lw.nil ?_
      cases hm
      exact Cw.ret (ret1 rfl (Res.mk a4 rfl))
    · replace hm := bf hm hc5
      refine Cw.skip ?_
      refine Cw.seq ?_
      refine Cw.region ?_
      refine Lw.r rfl (R.mv (v := v1_) rfl) (Lw.r rfl (R.mv (v := v2_) rfl) (Lw.r rfl (R.mv (v := v3_) rfl) ?_))
      have s6 := h1.ul a4
      have s7 := h2.ul a4
      have s8 := h3.ul a4
      obtain ⟨z9, e10, hm⟩ := ob hm
      refine Lw.t rfl (T.call rfl (p67 (K := [0]) (k0 := 2) s6 s7 s8 e10)) ?_
      rintro v0_11 _ ⟨W11, rfl, l11, ⟨_, rfl, f11_0⟩⟩
      have a12 : Le LL _ _ := l11.nil
      refine Lw.r rfl (R.as (v := v0_11) rfl) ?_
      refine Lw.nil ?_
      refine Cw.seq ?_
      refine Cw.seq ?_
      refine Cw.region ?_
      refine Lw.r rfl (R.as (v := vI 0) rfl) ?_
      refine Lw.nil ?_
      refine Cw.block ?_
      obtain ⟨K18, hK18, hm⟩ := jn_e hm
      refine Cw.loop 36 72 [9, 11, 12, 13] (fun m l w => ∃ (y13 : Int) (y14 : Int) (j15 j16 : Value) (W17 : CW), W17.w = w ∧ Le [] W11 W17 ∧ l = [vI y13, vI y14, j15, j16] ∧ Vm.spec_MemoLeft_l1 x0 z9 K18 m y13 y14 = some r) (((z9.length : Int) - 0).toNat + 1) ⟨0, 0, undef, undef, W11, rfl, Le.refl _ _, rfl, hm⟩ ?_
      rintro m19 _ _ σ ⟨y13, y14, j15, j16, W17, rfl, l17, rfl, hm⟩
      obtain _ | m19 := m19
      · cases hm
      unfold Vm.spec_MemoLeft_l1 at hm
      have a20 : Le LL _ _ := l17.nil
      have o21 := f11_0.up l17 rfl
      refine Cw.seq ?_
      refine Cw.seq ?_
      refine Cw.region ?_
      refine Lw.r rfl (R.mv (v := vI y14) rfl) (Lw.r rfl (R.mv (v := v0_11) rfl) (Lw.r rfl (lenR (xs := z9) o21.rd rfl) (Lw.r rfl (R.lt rfl rfl) ?_)))
      refine Lw.nil ?_
      refine Cw.cond (b := decide ((y14 : Int) < ((z9.length : Int) : Int))) rfl (fun hc22 => ?_) (fun hc22 => ?_)
      · replace hm := bt hm hc22
        refine Cw.skip ?_
        obtain ⟨K27, hK27, hm⟩ := jn_e hm
        refine Cw.join 42 72 [9, 12, 13] (fun l w => ∃ (y23 : Int) (j24 j25 : Value) (W26 : CW), W26.w = w ∧ Le [] W17 W26 ∧ l = [vI y23, j24, j25] ∧ K27 y23 = some r) ?_ ?_
        · rintro _ _ σ ⟨y23, j24, j25, W26, rfl, l26, rfl, hm⟩
          rw [hK27] at hm
          have a28 : Le LL _ _ := l26.nil
          have o29 := o21.up l26 rfl
          refine Cw.region ?_
          refine Lw.r rfl (R.mv (v := vI y14) rfl) (Lw.r rfl (R.add rfl rfl) (Lw.r rfl (R.as (v := vI (w64 (y14 + 1))) rfl) ?_))
          refine Lw.nil ?_
          refine ⟨?_, m19, Nat.lt_succ_self m19, ⟨y23, w64 (y14 + 1), j24, j25, W26, rfl, (l17.trans l26), rfl, hm⟩⟩
          iterate 3 (refine Agree.up rfl ?_)
          iterate 3 (refine Agree.up rfl ?_)
          refine Agree.ov0 rfl ?_
          iterate 4 (refine Agree.up rfl ?_)
          iterate 4 (refine Agree.up rfl ?_)
          exact Agree.base
        · refine Cw.block ?_
          refine Cw.seq ?_
          refine Cw.draw [] [(0, 0), (1, 0), (2, 0), (3, 0), (4, 0), (5, 1), (6, 0), (7, 0), (8, 0), (9, 0), (10, 1), (11, 0), (12, 0), (13, 0), (14, 0), (15, 1), (16, 3), (17, 0), (18, 0), (19, 0), (20, 0), (21, 0)] mixed (by kernel_rfl) fun W30 l30 => ?_
          have a31 : Le LL _ _ := l30.nil
          have o32 := o21.up l30 rfl
          refine Mw.p rfl rfl (fun _ => R.mv (v := v0_) rfl) (Mw.p rfl rfl (fun _ => R.mv (v := v0_11) rfl) (Mw.p rfl rfl (fun _ => R.mv (v := vI y14) rfl) ?_))
          obtain ⟨u33, e34, hm⟩ := ob hm
          refine Mw.p rfl rfl (fun _ => R.ix (α := Part) o32.rd e34 rfl rfl rfl) (Mw.p rfl rfl (fun _ => R.fa rfl) ?_)
          obtain ⟨v35, c36, r37⟩ := (Part.at2 (o32.rd.at_ e34)).cell rfl
          refine Mw.q rfl rfl (fun _ c => R.ld rfl rfl (cl_cell (Part.at2 (o32.rd.at_ e34)).1 rfl c36 c)) (Mw.p rfl rfl (fun _ => R.mv (v := v0_11) rfl) (Mw.p rfl rfl (fun _ => R.mv (v := vI y14) rfl) ?_))
          obtain ⟨u38, e39, hm⟩ := ob hm
          refine Mw.p rfl rfl (fun _ => R.ix (α := Part) o32.rd e39 rfl rfl rfl) (Mw.p rfl rfl (fun _ => R.fa rfl) ?_)
          obtain ⟨v40, c41, r42⟩ := (Part.at3 (o32.rd.at_ e39)).cell rfl
          refine Mw.q rfl rfl (fun _ c => R.ld rfl rfl (cl_cell (Part.at3 (o32.rd.at_ e39)).1 rfl c41 c)) (Mw.p rfl rfl (fun _ => R.mv (v := v0_11) rfl) (Mw.p rfl rfl (fun _ => R.mv (v := vI y14) rfl) ?_))
          obtain ⟨u43, e44, hm⟩ := ob hm
          refine Mw.p rfl rfl (fun _ => R.ix (α := Part) o32.rd e44 rfl rfl rfl) (Mw.p rfl rfl (fun _ => R.fa rfl) ?_)
          obtain ⟨v45, c46, r47⟩ := (Part.at4 (o32.rd.at_ e44)).cell rfl
          refine Mw.q rfl rfl (fun _ c => R.ld rfl rfl (cl_cell (Part.at4 (o32.rd.at_ e44)).1 rfl c46 c)) ?_
          have s48 := h0.ul (a4.trans (a12.trans (a20.trans a31)))
          obtain ⟨z49, e50, hm⟩ := ob hm
          refine Mw.l rfl rfl (T.call rfl (p68 (K := [0, 2])  (s48.sub (M := [0, 2]) rfl) (r37.sub (M := [0, 2]) rfl) (r42.sub (M := [0, 2]) rfl) (r47.sub (M := [0, 2]) rfl) e50)) ?_
          rintro _ _ ⟨W51, rfl, l51, ⟨v0_51, rfl, f51_0⟩⟩
          have s52 := f51_0.sub (M := [0, 2]) rfl
          have a53 : Le LL _ _ := l51.nil
          have o54 := o32.up l51 rfl
          refine Mw.p rfl rfl (fun _ => R.mv (v := .tuple [v0_51, vB z49.2].toArray) rfl) (Mw.p rfl rfl (fun _ => R.ext (vs := [v0_51, vB z49.2]) (v := v0_51) rfl rfl) (Mw.p rfl rfl (fun _ => R.ext (vs := [v0_51, vB z49.2]) (v := vB z49.2) rfl rfl) (Mw.p rfl rfl (fun _ => R.as (v := v0_51) rfl) (Mw.p rfl rfl (fun _ => R.as (v := vB z49.2) rfl) ?_))))
          refine Mw.nil ?_
          obtain ⟨K57, hK57, hm⟩ := jn_e hm
          refine Cw.join 62 70 [70] (fun l w => ∃ (y55 : Bool) (W56 : CW), W56.w = w ∧ Le [] W51 W56 ∧ l = [vB y55] ∧ K57 y55 = some r) ?_ ?_
          · rintro _ _ σ ⟨y55, W56, rfl, l56, rfl, hm⟩
            rw [hK57] at hm
            have a58 : Le LL _ _ := l56.nil
            have o59 := o54.up l56 rfl
            refine Cw.cond (b := y55) rfl (fun hc60 => ?_) (fun hc60 => ?_)
            · replace hm := bt hm hc60
              refine Cw.region ?_
              refine Lw.r rfl (R.mv (v := vI y13) rfl) (Lw.r rfl (R.add rfl rfl) (Lw.r rfl (R.as (v := vI (w64 (y13 + 1))) rfl) ?_))
              refine Lw.nil ?_
              refine ⟨?_, ⟨w64 (y13 + 1), v0_51, vB z49.2, W56, rfl, (l30.trans (l51.trans l56)), rfl, hm⟩⟩
              iterate 3 (refine Agree.up rfl ?_)
              iterate 1 (refine Agree.up rfl ?_)
              refine Agree.ov0 rfl ?_
              iterate 22 (refine Agree.up rfl ?_)
              exact Agree.refl _
            · replace hm := bf hm hc60
              refine Cw.skip ?_
              refine ⟨?_, ⟨y13, v0_51, vB z49.2, W56, rfl, (l30.trans (l51.trans l56)), rfl, hm⟩⟩
              iterate 1 (refine Agree.up rfl ?_)
              refine Agree.ov0 rfl ?_
              iterate 22 (refine Agree.up rfl ?_)
              exact Agree.refl _
          · refine Cw.region ?_
            refine Lw.r rfl (R.mv (v := v0_11) rfl) (Lw.r rfl (R.mv (v := vI y14) rfl) ?_)
            obtain ⟨u61, e62, hm⟩ := ob hm
            refine Lw.r rfl (R.ix (α := Part) o54.rd e62 rfl rfl rfl) (Lw.r rfl (R.fa rfl) (Lw.r rfl (R.ld rfl rfl (Part.at0 (o54.rd.at_ e62)).bool) (Lw.r rfl (R.mv (v := vB u61.Clash) rfl) ?_)))
            refine bsplit u61.Clash (fun hc63 => ?_) (fun hc63 => ?_)
            · replace hm := bt hm hc63
              refine Lw.want' hc63 rfl rfl rfl rfl ?_
              refine Lw.r rfl (R.mv (v := vB z49.2) rfl) ?_
              refine Lw.want' hc63 rfl rfl rfl rfl ?_
              refine Lw.r rfl (R.not rfl) (Lw.r rfl (R.pk hc63 rfl (v := vB (!z49.2)) rfl) ?_)
              refine Lw.nil ?_
              refine ⟨?_, ⟨(!z49.2), W51, rfl, Le.refl _ _, rfl, hm⟩⟩
              iterate 9 (refine Agree.up rfl ?_)
              exact Agree.refl _
            · replace hm := bf hm hc63
              refine Lw.pass' hc63 rfl rfl rfl rfl rfl rfl rfl ?_
              refine Lw.pass' hc63 rfl rfl rfl rfl rfl rfl rfl ?_
              refine Lw.r rfl (R.pk hc63 rfl (v := vB false) rfl) ?_
              refine Lw.nil ?_
              refine ⟨?_, ⟨false, W51, rfl, Le.refl _ _, rfl, hm⟩⟩
              iterate 9 (refine Agree.up rfl ?_)
              exact Agree.refl _
      · replace hm := bf hm hc22
        refine Cw.exit ?_
        rw [hK18] at hm
        refine Cw.seq ?_
        refine Cw.region ?_
        refine Lw.r rfl (R.mv (v := vI y13) rfl) (Lw.r rfl (R.as (v := vI y13) rfl) ?_)
        refine Lw.nil ?_
        cases hm
        exact Cw.ret (ret1 rfl (Res.mk (a4.trans (a12.trans a20)) rfl))
  · refine Cw.region ?_
    refine Lw.r rfl (R.mv (v := v0_) rfl) ?_
    obtain ⟨z64, e65, hm⟩ := ob hm
    refine Lw.t rfl (T.call rfl (p53 (K := [0])  h0 e65)) ?_
    rintro _ _ ⟨W66, rfl, l66, rfl⟩
    have a67 : Le LL _ _ := l66.nil
    refine Lw.r rfl (R.not rfl) (Lw.r rfl (R.mv (v := vB (!z64)) rfl) ?_)
    refine bsplit (!z64) (fun hc68 => ?_) (fun hc68 => ?_)
    · replace hm := bt hm hc68
      refine Lw.pass' hc68 rfl rfl rfl rfl rfl rfl rfl ?_
      refine Lw.pass' hc68 rfl rfl rfl rfl rfl rfl rfl ?_
      refine Lw.pass' hc68 rfl rfl rfl rfl rfl rfl rfl ?_
      refine Lw.r rfl (R.pk hc68 rfl (v := vB true) rfl) (Lw.r rfl (R.mv (v := vB true) rfl) ?_)
      refine Lw.pass' rfl rfl rfl rfl rfl rfl rfl rfl ?_
      refine Lw.pass' rfl rfl rfl rfl rfl rfl rfl rfl ?_
      refine Lw.pass' rfl rfl rfl rfl rfl rfl rfl rfl ?_
      refine Lw.r rfl (R.pk rfl rfl (v := vB true) rfl) (Lw.r rfl (R.mv (v := vB true) rfl) ?_)
      refine Lw.pass' rfl rfl rfl rfl rfl rfl rfl rfl ?_
      refine Lw.pass' rfl rfl rfl rfl rfl rfl rfl rfl ?_
      refine Lw.pass' rfl rfl rfl rfl rfl rfl rfl rfl ?_
      refine Lw.r rfl (R.pk rfl rfl (v := vB true) rfl) ?_
      refine Lw.nil ?_
      refine ⟨?_, ⟨true, W66, rfl, l66, rfl, hm⟩⟩
      iterate 18 (refine Agree.up rfl ?_)
      exact Agree.refl _
    · replace hm := bf hm hc68
      refine Lw.want' hc68 rfl rfl rfl rfl ?_
      refine Lw.r rfl (R.mv (v := v1_) rfl) ?_
      refine Lw.want' hc68 rfl rfl rfl rfl ?_
      have s69 := h1.ul a67
      obtain ⟨z70, e71, hm⟩ := ob hm
      refine Lw.t rfl (T.call rfl (p66 (K := [0])  s69 e71)) ?_
      rintro _ _ ⟨W72, rfl, l72, rfl⟩
      have a73 : Le LL _ _ := l72.nil
      refine Lw.want' hc68 rfl rfl rfl rfl ?_
      refine Lw.r rfl (R.not rfl) (Lw.r rfl (R.pk hc68 rfl (v := vB (!z70)) rfl) (Lw.r rfl (R.mv (v := vB (!z70)) rfl) ?_))
      refine bsplit (!z70) (fun hc74 => ?_) (fun hc74 => ?_)
      · replace hm := bt hm hc74
        refine Lw.pass' hc74 rfl rfl rfl rfl rfl rfl rfl ?_
        refine Lw.pass' hc74 rfl rfl rfl rfl rfl rfl rfl ?_
        refine Lw.pass' hc74 rfl rfl rfl rfl rfl rfl rfl ?_
        refine Lw.r rfl (R.pk hc74 rfl (v := vB true) rfl) (Lw.r rfl (R.mv (v := vB true) rfl) ?_)
        refine Lw.pass' rfl rfl rfl rfl rfl rfl rfl rfl ?_
        refine Lw.pass' rfl rfl rfl rfl rfl rfl rfl rfl ?_
        refine Lw.pass' rfl rfl rfl rfl rfl rfl rfl rfl ?_
        refine Lw.r rfl (R.pk rfl rfl (v := vB true) rfl) ?_
        refine Lw.nil ?_
        refine ⟨?_, ⟨true, W72, rfl, (l66.trans l72), rfl, hm⟩⟩
        iterate 18 (refine Agree.up rfl ?_)
        exact Agree.refl _
      · replace hm := bf hm hc74
        refine Lw.want' hc74 rfl rfl rfl rfl ?_
        refine Lw.r rfl (R.mv (v := v2_) rfl) ?_
        refine Lw.want' hc74 rfl rfl rfl rfl ?_
        have s75 := h2.ul (a67.trans a73)
        obtain ⟨z76, e77, hm⟩ := ob hm
        refine Lw.t rfl (T.call rfl (p66 (K := [0])  s75 e77)) ?_
        rintro _ _ ⟨W78, rfl, l78, rfl⟩
        have a79 : Le LL _ _ := l78.nil
        refine Lw.want' hc74 rfl rfl rfl rfl ?_
        refine Lw.r rfl (R.not rfl) (Lw.r rfl (R.pk hc74 rfl (v := vB (!z76)) rfl) (Lw.r rfl (R.mv (v := vB (!z76)) rfl) ?_))
        refine bsplit (!z76) (fun hc80 => ?_) (fun hc80 => ?_)
        · replace hm := bt hm hc80
          refine Lw.pass' hc80 rfl rfl rfl rfl rfl rfl rfl ?_
          refine Lw.pass' hc80 rfl rfl rfl rfl rfl rfl rfl ?_
          refine Lw.pass' hc80 rfl rfl rfl rfl rfl rfl rfl ?_
          refine Lw.r rfl (R.pk hc80 rfl (v := vB true) rfl) ?_
          refine Lw.nil ?_
          refine ⟨?_, ⟨true, W78, rfl, (l66.trans (l72.trans l78)), rfl, hm⟩⟩
          iterate 18 (refine Agree.up rfl ?_)
          exact Agree.refl _
        · replace hm := bf hm hc80
          refine Lw.want' hc80 rfl rfl rfl rfl ?_
          refine Lw.r rfl (R.mv (v := v3_) rfl) ?_
          refine Lw.want' hc80 rfl rfl rfl rfl ?_
          have s81 := h3.ul (a67.trans (a73.trans a79))
          obtain ⟨z82, e83, hm⟩ := ob hm
          refine Lw.t rfl (T.call rfl (p66 (K := [0])  s81 e83)) ?_
          rintro _ _ ⟨W84, rfl, l84, rfl⟩
          have a85 : Le LL _ _ := l84.nil
          refine Lw.want' hc80 rfl rfl rfl rfl ?_
          refine Lw.r rfl (R.not rfl) (Lw.r rfl (R.pk hc80 rfl (v := vB (!z82)) rfl) ?_)
          refine Lw.nil ?_
          refine ⟨?_, ⟨(!z82), W84, rfl, (l66.trans (l72.trans (l78.trans l84))), rfl, hm⟩⟩
          iterate 18 (refine Agree.up rfl ?_)
          exact Agree.refl _

theorem p28 {W : CW} {K : List Nat} {x0 : List Vm.Memo} {v0_ : Value} {x1 : List Str} {v1_ : Value} {x2 : List Str} {v2_ : Value} {x3 : List Str} {v3_ : Value} {r : Int} (h0 : Rd W K [v0_] x0) (h1 : Rd W K [v1_] x1) (h2 : Rd W K [v2_] x2) (h3 : Rd W K [v3_] x3) (hm : Vm.spec_MemoLeft x0 x1 x2 x3 = some r) : CallR Try.prog 28 [v0_, v1_, v2_, v3_].toArray W.w (Res W [] fun W' v => v = vI r) :=
  (c28 (V := W.view K []) (h0.view _) (h1.view _) (h2.view _) (h3.view _) hm).ad (fk 0) fun _ _ e => e

theorem c105 {V : CW} {x0 : List Str} {v0_ : Value} {x1 : List Str} {v1_ : Value} {r : (List (List Int))} (h0 : Rd V [0] [v0_] x0) (h1 : Rd V [0] [v1_] x1) (hm : Vm.impl_lcs x0 x1 = some r) : CallR Try.prog 105 [v0_, v1_].toArray V.w (Res V LL fun Wf v => ∃ (u0 : Value), v = u0 ∧ OwS Wf LL [] [u0] r) := by
  unfold Vm.impl_lcs at hm
  obtain ⟨W0, hW0⟩ : ∃ W, W = V := ⟨V, rfl⟩
  subst hW0
  refine CallR.of Try.func105 rfl rfl rfl rfl ?_
  refine Cw.seq ?_
  refine Cw.region ?_
  refine Lw.r rfl (R.as (v := .slice none 0 0) rfl) ?_
  refine Lw.nil ?_
  refine Cw.seq ?_
  refine Cw.region ?_
  refine Lw.r rfl (R.mv (v := v0_) rfl) (Lw.r rfl (lenR (xs := x0) h0 rfl) (Lw.r rfl (R.add rfl rfl) ?_))
  obtain ⟨q1, e2, hm⟩ := ob hm
  refine Lw.t rfl (T.mk (α := List Int) 2 [] (n := w64 ((x0.length : Int) + 1)) rfl rfl e2) ?_
  rintro v3 _ ⟨W3, rfl, l3, o3⟩
  have a4 : Le LL _ _ := l3.nil
  refine Lw.r rfl (R.as (v := v3) rfl) ?_
  refine Lw.nil ?_
  refine Cw.seq ?_
  refine Cw.seq ?_
  refine Cw.region ?_
  refine Lw.r rfl (R.mv (v := v3) rfl) (Lw.r rfl (lenR (xs := q1) o3.rd rfl) (Lw.r rfl (R.mv (v := vI 0) rfl) ?_))
  refine Lw.nil ?_
  refine Cw.block ?_
  obtain ⟨K10, hK10, hm⟩ := jn_e hm
  refine Cw.loop 15 25 [6, 15] (fun m l w => ∃ (y6 : Int) (y7 : List (List Int)) (j5 : Value) (W9 : CW), W9.w = w ∧ Le [2, 3] W3 W9 ∧ l = [j5, vI y6] ∧ Ow W9 2 [] [v3] y7 ∧ Vm.impl_lcs_l1 x1 q1 K10 m y6 y7 = some r) (((q1.length : Int) - 0).toNat + 1) ⟨0, q1, undef, W3, rfl, Le.refl _ _, rfl, o3, hm⟩ ?_
  rintro m11 _ _ σ ⟨y6, y7, j5, W9, rfl, l9, rfl, o8, hm⟩
  obtain _ | m11 := m11
  · cases hm
  unfold Vm.impl_lcs_l1 at hm
  have a12 : Le LL _ _ := l9.sub rfl
  refine Cw.seq ?_
  refine Cw.region ?_
  refine Lw.r rfl (R.lt rfl rfl) ?_
  refine Lw.nil ?_
  refine Cw.seq ?_
  refine Cw.cond (b := decide ((y6 : Int) < ((q1.length : Int) : Int))) rfl (fun hc13 => ?_) (fun hc13 => ?_)
  · replace hm := bt hm hc13
    refine Cw.skip ?_
    refine Cw.seq ?_
    refine Cw.block ?_
    refine Cw.seq ?_
    refine Cw.region ?_
    refine Lw.r rfl (R.mv (v := vI y6) rfl) (Lw.r rfl (R.as (v := vI y6) rfl) ?_)
    refine Lw.nil ?_
    refine Cw.region ?_
    have s14 := h1.ul (a4.trans a12)
    refine Lw.r rfl (R.mv (v := v3) rfl) (Lw.r rfl (R.mv (v := vI y6) rfl) (Lw.r rfl (R.mv (v := v1_) rfl) (Lw.r rfl (lenR (xs := x1) s14 rfl) (Lw.r rfl (R.add rfl rfl) ?_))))
    obtain ⟨q15, e16, hm⟩ := ob hm
    refine Lw.t rfl (T.mk (α := Int) 3 [] (n := w64 ((x1.length : Int) + 1)) rfl rfl e16) ?_
    rintro v17 _ ⟨W17, rfl, l17, o17⟩
    have a18 : Le LL _ _ := l17.nil
    have o19 := o8.up l17 rfl
    obtain ⟨u20, e21, hm⟩ := ob hm
    refine Lw.r rfl (R.ix (α := List Int) o19.rd e21 rfl rfl rfl) ?_
    obtain ⟨q23, e24, hm⟩ := ob hm
    refine Lw.u (T.stO (J := [3]) o19 o17.s e24 rfl rfl (cells_list o17.oc)) ?_
    rintro _ _ ⟨W22, rfl, l22, o22⟩
    have a25 : Le LL _ _ := l22.sub rfl
    refine Lw.nil ?_
    refine Cw.region ?_
    refine Lw.r rfl (R.add rfl rfl) (Lw.r rfl (R.mv (v := vI (w64 (y6 + 1))) rfl) ?_)
    refine Lw.nil ?_
    refine ⟨?_, m11, Nat.lt_succ_self m11, ⟨w64 (y6 + 1), q23, vI y6, W22, rfl, (l9.trans ((l17.sub rfl).trans l22)), rfl, o22, hm⟩⟩
    iterate 12 (refine Agree.up rfl ?_)
    iterate 2 (refine Agree.up rfl ?_)
    exact Agree.base
  · replace hm := bf hm hc13
    refine Cw.exit ?_
    rw [hK10] at hm
    refine Cw.seq ?_
    refine Cw.seq ?_
    refine Cw.region ?_
    have s26 := h0.ul (a4.trans a12)
    refine Lw.r rfl (R.mv (v := v0_) rfl) (Lw.r rfl (lenR (xs := x0) s26 rfl) (Lw.r rfl (R.sub rfl rfl) (Lw.r rfl (R.as (v := vI (w64 ((x0.length : Int) - 1))) rfl) ?_)))
    refine Lw.nil ?_
    refine Cw.block ?_
    obtain ⟨K32, hK32, hm⟩ := jn_e hm
    refine Cw.loop 29 87 [7, 8] (fun m l w => ∃ (y27 : Int) (y29 : List (List Int)) (j28 : Value) (W31 : CW), W31.w = w ∧ Le [2, 4, 5] W9 W31 ∧ l = [vI y27, j28] ∧ Ow W31 2 [] [v3] y29 ∧ Vm.impl_lcs_l2 x0 x1 K32 m y27 y29 = some r) (((w64 ((x0.length : Int) - 1)) + 1 - 0).toNat + 1) ⟨w64 ((x0.length : Int) - 1), y7, undef, W9, rfl, Le.refl _ _, rfl, o8, hm⟩ ?_
    rintro m33 _ _ σ ⟨y27, y29, j28, W31, rfl, l31, rfl, o30, hm⟩
    obtain _ | m33 := m33
    · cases hm
    unfold Vm.impl_lcs_l2 at hm
    have a34 : Le LL _ _ := l31.sub rfl
    refine Cw.seq ?_
    refine Cw.seq ?_
    refine Cw.region ?_
    refine Lw.r rfl (R.mv (v := vI y27) rfl) (Lw.r rfl (R.ge rfl rfl) ?_)
    refine Lw.nil ?_
    refine Cw.cond (b := decide ((0 : Int) ≤ (y27 : Int))) rfl (fun hc35 => ?_) (fun hc35 => ?_)
    · replace hm := bt hm hc35
      refine Cw.skip ?_
      refine Cw.seq ?_
      refine Cw.block ?_
      refine Cw.seq ?_
      refine Cw.region ?_
      have s36 := h1.ul (a4.trans (a12.trans a34))
      refine Lw.r rfl (R.mv (v := v1_) rfl) (Lw.r rfl (lenR (xs := x1) s36 rfl) (Lw.r rfl (R.sub rfl rfl) (Lw.r rfl (R.as (v := vI (w64 ((x1.length : Int) - 1))) rfl) ?_)))
      refine Lw.nil ?_
      refine Cw.block ?_
      obtain ⟨K41, hK41, hm⟩ := jn_e hm
      refine Cw.loop 36 87 [8] (fun m l w => ∃ (y37 : Int) (y38 : List (List Int)) (W40 : CW), W40.w = w ∧ Le [2, 4, 5] W31 W40 ∧ l = [vI y37] ∧ Ow W40 2 [] [v3] y38 ∧ Vm.impl_lcs_l3 x0 x1 y27 K41 m y37 y38 = some r) (((w64 ((x1.length : Int) - 1)) + 1 - 0).toNat + 1) ⟨w64 ((x1.length : Int) - 1), y29, W31, rfl, Le.refl _ _, rfl, o30, hm⟩ ?_
      rintro m42 _ _ σ ⟨y37, y38, W40, rfl, l40, rfl, o39, hm⟩
      obtain _ | m42 := m42
      · cases hm
      unfold Vm.impl_lcs_l3 at hm
      have a43 : Le LL _ _ := l40.sub rfl
      refine Cw.seq ?_
      refine Cw.seq ?_
      refine Cw.region ?_
      refine Lw.r rfl (R.mv (v := vI y37) rfl) (Lw.r rfl (R.ge rfl rfl) ?_)
      refine Lw.nil ?_
      refine Cw.cond (b := decide ((0 : Int) ≤ (y37 : Int))) rfl (fun hc44 => ?_) (fun hc44 => ?_)
      · replace hm := bt hm hc44
        refine Cw.skip ?_
        obtain ⟨K48, hK48, hm⟩ := jn_e hm
        refine Cw.join 40 87 [] (fun l w => ∃ (y45 : List (List Int)) (W47 : CW), W47.w = w ∧ Le [2, 4, 5] W40 W47 ∧ l = [] ∧ Ow W47 2 [] [v3] y45 ∧ K48 y45 = some r) ?_ ?_
        · rintro _ _ σ ⟨y45, W47, rfl, l47, rfl, o46, hm⟩
          rw [hK48] at hm
          have a49 : Le LL _ _ := l47.sub rfl
          refine Cw.region ?_
          refine Lw.r rfl (R.mv (v := vI y37) rfl) (Lw.r rfl (R.sub rfl rfl) (Lw.r rfl (R.as (v := vI (w64 (y37 - 1))) rfl) ?_))
          refine Lw.nil ?_
          refine ⟨?_, m42, Nat.lt_succ_self m42, ⟨w64 (y37 - 1), y45, W47, rfl, (l40.trans l47), rfl, o46, hm⟩⟩
          iterate 3 (refine Agree.up rfl ?_)
          refine Agree.ov0 rfl ?_
          iterate 2 (refine Agree.up rfl ?_)
          iterate 1 (refine Agree.up rfl ?_)
          exact Agree.base
        · refine Cw.block ?_
          refine Cw.seq ?_
          refine Cw.draw [] [(0, 0), (1, 0), (2, 0), (3, 1), (4, 0), (5, 0), (6, 0), (7, 1), (8, 0)] mixed (by kernel_rfl) fun W50 l50 => ?_
          have a51 : Le LL _ _ := l50.nil
          have o52 := o39.up l50 rfl
          refine Mw.p rfl rfl (fun _ => R.mv (v := v0_) rfl) (Mw.p rfl rfl (fun _ => R.mv (v := vI y27) rfl) ?_)
          obtain ⟨u53, e54, hm⟩ := ob hm
          have s55 := h0.ul (a4.trans (a12.trans (a34.trans (a43.trans a51))))
          refine Mw.p rfl rfl (fun _ => R.ix (α := Str) s55 e54 rfl rfl rfl) (Mw.q rfl rfl (fun _ c => R.ld rfl rfl (cl_cell (s55.at_ e54).1 rfl (s55.at_ e54).str c)) (Mw.p rfl rfl (fun _ => R.mv (v := v1_) rfl) (Mw.p rfl rfl (fun _ => R.mv (v := vI y37) rfl) ?_)))
          obtain ⟨u56, e57, hm⟩ := ob hm
          have s58 := h1.ul (a4.trans (a12.trans (a34.trans (a43.trans a51))))
          refine Mw.p rfl rfl (fun _ => R.ix (α := Str) s58 e57 rfl rfl rfl) (Mw.q rfl rfl (fun _ c => R.ld rfl rfl (cl_cell (s58.at_ e57).1 rfl (s58.at_ e57).str c)) (Mw.p rfl rfl (fun _ => R.seq rfl rfl) ?_))
          refine Mw.nil ?_
          refine Cw.cond (b := (u53 == u56)) rfl (fun hc59 => ?_) (fun hc59 => ?_)
          · replace hm := bt hm hc59
            refine Cw.draw [] [(0, 0), (1, 0), (2, 0), (3, 1), (4, 0), (5, 0), (6, 0), (7, 0), (8, 0), (9, 1), (10, 0), (11, 0), (12, 0), (13, 1), (14, 0), (15, 0), (16, 3)] mixed (by kernel_rfl) fun W60 l60 => ?_
            have a61 : Le LL _ _ := l60.nil
            have o62 := o52.up l60 rfl
            refine Mw.p rfl rfl (fun _ => R.mv (v := v3) rfl) (Mw.p rfl rfl (fun _ => R.mv (v := vI y27) rfl) ?_)
            obtain ⟨u63, e64, hm⟩ := ob hm
            refine Mw.p rfl rfl (fun _ => R.ix (α := List Int) o62.rd e64 rfl rfl rfl) ?_
            obtain ⟨v65, c66, r67⟩ := (o62.rd.at_ e64).cell rfl
            refine Mw.q rfl rfl (fun _ c => R.ld rfl rfl (cl_cell (o62.rd.at_ e64).1 rfl c66 c)) (Mw.p rfl rfl (fun _ => R.mv (v := vI y37) rfl) (Mw.p rfl rfl (fun _ => R.mv (v := v3) rfl) (Mw.p rfl rfl (fun _ => R.mv (v := vI y27) rfl) (Mw.p rfl rfl (fun _ => R.add rfl rfl) ?_))))
            obtain ⟨u68, e69, hm⟩ := ob hm
            refine Mw.p rfl rfl (fun _ => R.ix (α := List Int) o62.rd e69 rfl rfl rfl) ?_
            obtain ⟨v70, c71, r72⟩ := (o62.rd.at_ e69).cell rfl
            refine Mw.q rfl rfl (fun _ c => R.ld rfl rfl (cl_cell (o62.rd.at_ e69).1 rfl c71 c)) (Mw.p rfl rfl (fun _ => R.mv (v := vI y37) rfl) (Mw.p rfl rfl (fun _ => R.add rfl rfl) ?_))
            obtain ⟨u73, e74, hm⟩ := ob hm
            refine Mw.p rfl rfl (fun _ => R.ix (α := Int) r72 e74 rfl rfl rfl) (Mw.q rfl rfl (fun _ c => R.ld rfl rfl (cl_cell (r72.at_ e74).1 rfl (r72.at_ e74).int c)) (Mw.p rfl rfl (fun _ => R.add rfl rfl) ?_))
            obtain ⟨u75, e76, hm⟩ := ob hm
            refine Mw.p rfl rfl (fun _ => R.ix (α := Int) r67 e76 rfl rfl rfl) ?_
            obtain ⟨W77, ew77, l77, o77, gb77⟩ := Ow.lend (α := List Int) (β := List Int) (j := 4) (jf := 0) o62 e64 (by rw [h_add0]; exact c66) rfl
            rw [← ew77]
            have a78 : Le LL _ _ := l77.sub rfl
            obtain ⟨q80, e81, hm⟩ := ob hm
            refine Mw.lu rfl (T.stS (K' := []) o77 (rdI _) e81 rfl rfl rfl) ?_
            rintro _ _ ⟨W79, rfl, l79, o79⟩
            have a82 : Le LL _ _ := l79.sub rfl
            obtain ⟨W84, ew84, l84, q84, eq84, o84⟩ := gb77 _ _ l79 o79
            obtain ⟨q84_, eqm84, hm⟩ := ob hm
            obtain rfl : q84_ = q84 := Option.some.inj (eqm84.symm.trans eq84)
            rw [← ew84]
            have a85 : Le LL _ _ := l84.sub rfl
            refine Mw.nil ?_
            refine ⟨?_, ⟨q84_, W84, rfl, ((l50.sub rfl).trans ((l60.sub rfl).trans ((l77.sub rfl).trans ((l79.sub rfl).trans (l84.sub rfl))))), rfl, o84, hm⟩⟩
            iterate 25 (refine Agree.up rfl ?_)
            exact Agree.refl _
          · replace hm := bf hm hc59
            refine Cw.draw [] [(0, 0), (1, 0), (2, 0), (3, 1), (4, 0), (5, 0), (6, 0), (7, 0), (8, 0), (9, 1), (10, 0), (11, 0), (12, 1), (13, 0), (14, 0), (15, 0), (16, 1), (17, 0), (18, 0), (19, 0), (20, 1), (21, 0), (22, 0), (23, 3)] mixed (by kernel_rfl) fun W86 l86 => ?_
            have a87 : Le LL _ _ := l86.nil
            have o88 := o52.up l86 rfl
            refine Mw.p rfl rfl (fun _ => R.mv (v := v3) rfl) (Mw.p rfl rfl (fun _ => R.mv (v := vI y27) rfl) ?_)
            obtain ⟨u89, e90, hm⟩ := ob hm
            refine Mw.p rfl rfl (fun _ => R.ix (α := List Int) o88.rd e90 rfl rfl rfl) ?_
            obtain ⟨v91, c92, r93⟩ := (o88.rd.at_ e90).cell rfl
            refine Mw.q rfl rfl (fun _ c => R.ld rfl rfl (cl_cell (o88.rd.at_ e90).1 rfl c92 c)) (Mw.p rfl rfl (fun _ => R.mv (v := vI y37) rfl) (Mw.p rfl rfl (fun _ => R.mv (v := v3) rfl) (Mw.p rfl rfl (fun _ => R.mv (v := vI y27) rfl) (Mw.p rfl rfl (fun _ => R.add rfl rfl) ?_))))
            obtain ⟨u94, e95, hm⟩ := ob hm
            refine Mw.p rfl rfl (fun _ => R.ix (α := List Int) o88.rd e95 rfl rfl rfl) ?_
            obtain ⟨v96, c97, r98⟩ := (o88.rd.at_ e95).cell rfl
            refine Mw.q rfl rfl (fun _ c => R.ld rfl rfl (cl_cell (o88.rd.at_ e95).1 rfl c97 c)) (Mw.p rfl rfl (fun _ => R.mv (v := vI y37) rfl) ?_)
            obtain ⟨u99, e100, hm⟩ := ob hm
            refine Mw.p rfl rfl (fun _ => R.ix (α := Int) r98 e100 rfl rfl rfl) (Mw.q rfl rfl (fun _ c => R.ld rfl rfl (cl_cell (r98.at_ e100).1 rfl (r98.at_ e100).int c)) (Mw.p rfl rfl (fun _ => R.mv (v := v3) rfl) (Mw.p rfl rfl (fun _ => R.mv (v := vI y27) rfl) ?_)))
            obtain ⟨u101, e102, hm⟩ := ob hm
            refine Mw.p rfl rfl (fun _ => R.ix (α := List Int) o88.rd e102 rfl rfl rfl) ?_
            obtain ⟨v103, c104, r105⟩ := (o88.rd.at_ e102).cell rfl
            refine Mw.q rfl rfl (fun _ c => R.ld rfl rfl (cl_cell (o88.rd.at_ e102).1 rfl c104 c)) (Mw.p rfl rfl (fun _ => R.mv (v := vI y37) rfl) (Mw.p rfl rfl (fun _ => R.add rfl rfl) ?_))
            obtain ⟨u106, e107, hm⟩ := ob hm
            refine Mw.p rfl rfl (fun _ => R.ix (α := Int) r105 e107 rfl rfl rfl) (Mw.q rfl rfl (fun _ c => R.ld rfl rfl (cl_cell (r105.at_ e107).1 rfl (r105.at_ e107).int c)) (Mw.p rfl rfl (fun _ => R.max rfl rfl) ?_))
            obtain ⟨u108, e109, hm⟩ := ob hm
            refine Mw.p rfl rfl (fun _ => R.ix (α := Int) r93 e109 rfl rfl rfl) ?_
            obtain ⟨W110, ew110, l110, o110, gb110⟩ := Ow.lend (α := List Int) (β := List Int) (j := 5) (jf := 0) o88 e90 (by rw [h_add0]; exact c92) rfl
            rw [← ew110]
            have a111 : Le LL _ _ := l110.sub rfl
            obtain ⟨q113, e114, hm⟩ := ob hm
            refine Mw.lu rfl (T.stS (K' := []) o110 (rdI _) e114 rfl rfl rfl) ?_
            rintro _ _ ⟨W112, rfl, l112, o112⟩
            have a115 : Le LL _ _ := l112.sub rfl
            obtain ⟨W117, ew117, l117, q117, eq117, o117⟩ := gb110 _ _ l112 o112
            obtain ⟨q117_, eqm117, hm⟩ := ob hm
            obtain rfl : q117_ = q117 := Option.some.inj (eqm117.symm.trans eq117)
            rw [← ew117]
            have a118 : Le LL _ _ := l117.sub rfl
            refine Mw.nil ?_
            refine ⟨?_, ⟨q117_, W117, rfl, ((l50.sub rfl).trans ((l86.sub rfl).trans ((l110.sub rfl).trans ((l112.sub rfl).trans (l117.sub rfl))))), rfl, o117, hm⟩⟩
            iterate 32 (refine Agree.up rfl ?_)
            exact Agree.refl _
      · replace hm := bf hm hc44
        refine Cw.exit ?_
        rw [hK41] at hm
        refine Cw.region ?_
        refine Lw.r rfl (R.mv (v := vI y27) rfl) (Lw.r rfl (R.sub rfl rfl) (Lw.r rfl (R.as (v := vI (w64 (y27 - 1))) rfl) ?_))
        refine Lw.nil ?_
        refine ⟨?_, m33, Nat.lt_succ_self m33, ⟨w64 (y27 - 1), y38, vI y37, W40, rfl, (l31.trans l40), rfl, o39, hm⟩⟩
        iterate 5 (refine Agree.up rfl ?_)
        iterate 1 (refine Agree.up rfl ?_)
        refine Agree.ov0 rfl ?_
        iterate 6 (refine Agree.up rfl ?_)
        iterate 2 (refine Agree.up rfl ?_)
        exact Agree.base
    · replace hm := bf hm hc35
      refine Cw.exit ?_
      rw [hK32] at hm
      refine Cw.seq ?_
      refine Cw.region ?_
      refine Lw.r rfl (R.mv (v := v3) rfl) (Lw.r rfl (R.as (v := v3) rfl) ?_)
      refine Lw.nil ?_
      cases hm
      exact Cw.ret (ret1 rfl (Res.mk (a4.trans (a12.trans a34)) ⟨v3, rfl, o30.s.sub rfl rfl⟩))

theorem p105 {W : CW} {K : List Nat} {x0 : List Str} {v0_ : Value} {x1 : List Str} {v1_ : Value} {k0 : Nat} {r : (List (List Int))} (h0 : Rd W K [v0_] x0) (h1 : Rd W K [v1_] x1) (hm : Vm.impl_lcs x0 x1 = some r) : CallR Try.prog 105 [v0_, v1_].toArray W.w (Res W [] fun W' v => ∃ (u0 : Value), v = u0 ∧ Ow W' k0 [] [u0] r) :=
  (c105 (V := W.view K []) (h0.view _) (h1.view _) hm).ad (fk k0) fun _ _ ⟨u0, e, f0⟩ => ⟨u0, e, f0.back (fk_LL _)⟩

theorem c96 {V : CW} {x0 : List Str} {v0_ : Value} {x1 : List Str} {v1_ : Value} {r : (List Int)} (h0 : Rd V [0] [v0_] x0) (h1 : Rd V [0] [v1_] x1) (hm : Vm.impl_match x0 x1 = some r) : CallR Try.prog 96 [v0_, v1_].toArray V.w (Res V LL fun Wf v => ∃ (u0 : Value), v = u0 ∧ OwS Wf LL [] [u0] r) := by
  unfold Vm.impl_match at hm
  obtain ⟨W0, hW0⟩ : ∃ W, W = V := ⟨V, rfl⟩
  subst hW0
  refine CallR.of Try.func96 rfl rfl rfl rfl ?_
  refine Cw.seq ?_
  refine Cw.region ?_
  refine Lw.r rfl (R.as (v := .slice none 0 0) rfl) ?_
  refine Lw.nil ?_
  refine Cw.seq ?_
  refine Cw.region ?_
  refine Lw.r rfl (R.mv (v := v0_) rfl) (Lw.r rfl (R.mv (v := v1_) rfl) ?_)
  obtain ⟨z1, e2, hm⟩ := ob hm
  refine Lw.t rfl (T.call rfl (p105 (K := [0]) (k0 := 2) h0 h1 e2)) ?_
  rintro v0_3 _ ⟨W3, rfl, l3, ⟨_, rfl, f3_0⟩⟩
  have a4 : Le LL _ _ := l3.nil
  refine Lw.r rfl (R.as (v := v0_3) rfl) ?_
  refine Lw.nil ?_
  refine Cw.seq ?_
  refine Cw.region ?_
  refine Lw.r rfl (R.as (v := .slice none 0 0) rfl) ?_
  refine Lw.nil ?_
  refine Cw.seq ?_
  refine Cw.seq ?_
  refine Cw.region ?_
  refine Lw.r rfl (R.as (v := vI 0) rfl) (Lw.r rfl (R.as (v := vI 0) rfl) ?_)
  refine Lw.nil ?_
  refine Cw.block ?_
  obtain ⟨K11, hK11, hm⟩ := jn_e hm
  refine Cw.loop 12 70 [6, 7, 8] (fun m l w => ∃ (y5 : List Int) (y8 : Int) (y9 : Int) (v6 : Value) (W10 : CW), W10.w = w ∧ Le [3] W3 W10 ∧ l = [v6, vI y8, vI y9] ∧ Ow W10 3 [] [v6] y5 ∧ Vm.impl_match_l1 x0 x1 z1 K11 m y5 y8 y9 = some r) (x0.length + x1.length + 1) ⟨([] : List Int), 0, 0, .slice none 0 0, W3, rfl, Le.refl _ _, rfl, owN 3 [], hm⟩ ?_
  rintro m12 _ _ σ ⟨y5, y8, y9, v6, W10, rfl, l10, rfl, o7, hm⟩
  obtain _ | m12 := m12
  · cases hm
  unfold Vm.impl_match_l1 at hm
  have a13 : Le LL _ _ := l10.sub rfl
  have o14 := f3_0.up l10 rfl
  refine Cw.seq ?_
  refine Cw.seq ?_
  refine Cw.region ?_
  have s15 := h0.ul (a4.trans a13)
  refine Lw.r rfl (R.mv (v := vI y8) rfl) (Lw.r rfl (R.mv (v := v0_) rfl) (Lw.r rfl (lenR (xs := x0) s15 rfl) (Lw.r rfl (R.lt rfl rfl) ?_)))
  refine Lw.nil ?_
  refine Cw.cond (b := decide ((y8 : Int) < ((x0.length : Int) : Int))) rfl (fun hc16 => ?_) (fun hc16 => ?_)
  · replace hm := bt hm hc16
    refine Cw.skip ?_
    refine Cw.block ?_
    refine Cw.block ?_
    obtain ⟨K19, hK19, hm⟩ := jn_e hm
    refine Cw.join 18 33 [18] (fun l w => ∃ (y17 : Bool) (W18 : CW), W18.w = w ∧ Le [] W10 W18 ∧ l = [vB y17] ∧ K19 y17 = some r) ?_ ?_
    · rintro _ _ σ ⟨y17, W18, rfl, l18, rfl, hm⟩
      rw [hK19] at hm
      have a20 : Le LL _ _ := l18.nil
      have o21 := o14.up l18 rfl
      have o22 := o7.up l18 rfl
      refine Cw.cond (b := y17) rfl (fun hc23 => ?_) (fun hc23 => ?_)
      · replace hm := bt hm hc23
        refine Cw.seq ?_
        refine Cw.region ?_
        refine Lw.r rfl (R.mv (v := v6) rfl) (Lw.r rfl (R.mv (v := vI y9) rfl) ?_)
        refine Lw.t rfl (T.bs 4 [vI y9] (cs := [vI y9]) rfl rfl (bsv rfl)) ?_
        rintro _ _ ⟨g24, W24, rfl, rfl, l24, b24⟩
        have a25 : Le LL _ _ := l24.nil
        have o26 := o21.up l24 rfl
        have o27 := o22.up l24 rfl
        obtain ⟨q28, e29, hm⟩ := ob hm
        refine Lw.t rfl (T.app1S (α := Int) (K' := []) o27 b24 (rdI _) rfl rfl e29) ?_
        rintro v30 _ ⟨W30, rfl, l30, o30⟩
        have a31 : Le LL _ _ := l30.sub rfl
        have o32 := o26.up l30 rfl
        have b33 := b24.up l30 rfl
        refine Lw.r rfl (R.as (v := v30) rfl) ?_
        refine Lw.nil ?_
        refine Cw.seq ?_
        refine Cw.region ?_
        refine Lw.r rfl (R.mv (v := vI y8) rfl) (Lw.r rfl (R.add rfl rfl) (Lw.r rfl (R.as (v := vI (w64 (y8 + 1))) rfl) ?_))
        refine Lw.nil ?_
        refine Cw.region ?_
        refine Lw.r rfl (R.mv (v := vI y9) rfl) (Lw.r rfl (R.add rfl rfl) (Lw.r rfl (R.as (v := vI (w64 (y9 + 1))) rfl) ?_))
        refine Lw.nil ?_
        refine ⟨?_, m12, Nat.lt_succ_self m12, ⟨q28, w64 (y8 + 1), w64 (y9 + 1), v30, W30, rfl, (l10.trans ((l18.sub rfl).trans ((l24.sub rfl).trans l30))), rfl, o30, hm⟩⟩
        iterate 11 (refine Agree.up rfl ?_)
        iterate 1 (refine Agree.up rfl ?_)
        refine Agree.ov0 rfl ?_
        iterate 4 (refine Agree.up rfl ?_)
        iterate 3 (refine Agree.up rfl ?_)
        exact Agree.base
      · replace hm := bf hm hc23
        obtain ⟨K36, hK36, hm⟩ := jn_e hm
        refine Cw.join 42 65 [42] (fun l w => ∃ (y34 : Bool) (W35 : CW), W35.w = w ∧ Le [] W18 W35 ∧ l = [vB y34] ∧ K36 y34 = some r) ?_ ?_
        · rintro _ _ σ ⟨y34, W35, rfl, l35, rfl, hm⟩
          rw [hK36] at hm
          have a37 : Le LL _ _ := l35.nil
          have o38 := o21.up l35 rfl
          have o39 := o22.up l35 rfl
          refine Cw.cond (b := y34) rfl (fun hc40 => ?_) (fun hc40 => ?_)
          · replace hm := bt hm hc40
            refine Cw.seq ?_
            refine Cw.region ?_
            refine Lw.r rfl (R.mv (v := v6) rfl) ?_
            refine Lw.t rfl (T.bs 5 [vI (-1)] (cs := [vI (-1)]) rfl rfl (bsv rfl)) ?_
            rintro _ _ ⟨g41, W41, rfl, rfl, l41, b41⟩
            have a42 : Le LL _ _ := l41.nil
            have o43 := o38.up l41 rfl
            have o44 := o39.up l41 rfl
            obtain ⟨q45, e46, hm⟩ := ob hm
            refine Lw.t rfl (T.app1S (α := Int) (K' := []) o44 b41 (rdI _) rfl rfl e46) ?_
            rintro v47 _ ⟨W47, rfl, l47, o47⟩
            have a48 : Le LL _ _ := l47.sub rfl
            have o49 := o43.up l47 rfl
            have b50 := b41.up l47 rfl
            refine Lw.r rfl (R.as (v := v47) rfl) ?_
            refine Lw.nil ?_
            refine Cw.region ?_
            refine Lw.r rfl (R.mv (v := vI y8) rfl) (Lw.r rfl (R.add rfl rfl) (Lw.r rfl (R.as (v := vI (w64 (y8 + 1))) rfl) ?_))
            refine Lw.nil ?_
            refine ⟨?_, m12, Nat.lt_succ_self m12, ⟨q45, w64 (y8 + 1), y9, v47, W47, rfl, (l10.trans ((l18.sub rfl).trans ((l35.sub rfl).trans ((l41.sub rfl).trans l47)))), rfl, o47, hm⟩⟩
            iterate 7 (refine Agree.up rfl ?_)
            iterate 1 (refine Agree.up rfl ?_)
            refine Agree.ov0 rfl ?_
            iterate 1 (refine Agree.up rfl ?_)
            refine Agree.ov0 rfl ?_
            iterate 4 (refine Agree.up rfl ?_)
            iterate 3 (refine Agree.up rfl ?_)
            exact Agree.base
          · replace hm := bf hm hc40
            refine Cw.region ?_
            refine Lw.r rfl (R.mv (v := vI y9) rfl) (Lw.r rfl (R.add rfl rfl) (Lw.r rfl (R.as (v := vI (w64 (y9 + 1))) rfl) ?_))
            refine Lw.nil ?_
            refine ⟨?_, m12, Nat.lt_succ_self m12, ⟨y5, y8, w64 (y9 + 1), v6, W35, rfl, (l10.trans ((l18.sub rfl).trans (l35.sub rfl))), rfl, o39, hm⟩⟩
            iterate 3 (refine Agree.up rfl ?_)
            iterate 1 (refine Agree.up rfl ?_)
            refine Agree.ov0 rfl ?_
            iterate 1 (refine Agree.up rfl ?_)
            refine Agree.ov0 rfl ?_
            iterate 4 (refine Agree.up rfl ?_)
            iterate 3 (refine Agree.up rfl ?_)
            exact Agree.base
        · refine Cw.draw [] [(0, 0), (1, 0), (2, 0), (3, 0), (4, 0), (5, 0), (6, 0), (7, 0), (8, 0), (9, 1), (10, 0), (11, 0), (12, 1), (13, 0), (14, 0), (15, 0), (16, 1), (17, 0), (18, 0), (19, 0), (20, 1), (21, 0), (22, 0), (23, 0)] mixed (by kernel_rfl) fun W51 l51 => ?_
          have a52 : Le LL _ _ := l51.nil
          have o53 := o21.up l51 rfl
          have o54 := o22.up l51 rfl
          have s55 := h1.ul (a4.trans (a13.trans (a20.trans a52)))
          refine Mw.p rfl rfl (fun _ => R.mv (v := vI y9) rfl) (Mw.p rfl rfl (fun _ => R.mv (v := v1_) rfl) (Mw.p rfl rfl (fun _ => lenR (xs := x1) s55 rfl) (Mw.p rfl rfl (fun _ => R.eq rfl rfl) (Mw.p rfl rfl (fun _ => R.mv (v := vB ((y9 : Int) == ((x1.length : Int) : Int))) rfl) ?_))))
          refine bsplit ((y9 : Int) == ((x1.length : Int) : Int)) (fun hc56 => ?_) (fun hc56 => ?_)
          · replace hm := bt hm hc56
            refine Mw.pass' hc56 rfl rfl rfl rfl rfl rfl ?_
            refine Mw.pass' hc56 rfl rfl rfl rfl rfl rfl ?_
            refine Mw.pass' hc56 rfl rfl rfl rfl rfl rfl ?_
            refine Mw.pass' hc56 rfl rfl rfl rfl rfl rfl ?_
            refine Mw.pass' hc56 rfl rfl rfl rfl rfl rfl ?_
            refine Mw.pass' hc56 rfl rfl rfl rfl rfl rfl ?_
            refine Mw.pass' hc56 rfl rfl rfl rfl rfl rfl ?_
            refine Mw.pass' hc56 rfl rfl rfl rfl rfl rfl ?_
            refine Mw.pass' hc56 rfl rfl rfl rfl rfl rfl ?_
            refine Mw.pass' hc56 rfl rfl rfl rfl rfl rfl ?_
            refine Mw.pass' hc56 rfl rfl rfl rfl rfl rfl ?_
            refine Mw.pass' hc56 rfl rfl rfl rfl rfl rfl ?_
            refine Mw.pass' hc56 rfl rfl rfl rfl rfl rfl ?_
            refine Mw.pass' hc56 rfl rfl rfl rfl rfl rfl ?_
            refine Mw.pass' hc56 rfl rfl rfl rfl rfl rfl ?_
            refine Mw.pass' hc56 rfl rfl rfl rfl rfl rfl ?_
            refine Mw.pass' hc56 rfl rfl rfl rfl rfl rfl ?_
            refine Mw.p rfl rfl (fun _ => R.pk hc56 rfl (v := vB true) rfl) (Mw.p rfl rfl (fun _ => R.as (v := vB true) rfl) ?_)
            refine Mw.nil ?_
            refine ⟨?_, ⟨true, W51, rfl, l51, rfl, hm⟩⟩
            iterate 24 (refine Agree.up rfl ?_)
            exact Agree.refl _
          · replace hm := bf hm hc56
            refine Mw.gp hc56 rfl rfl rfl rfl rfl (fun _ => R.mv (v := v0_3) rfl) (Mw.gp hc56 rfl rfl rfl rfl rfl (fun _ => R.mv (v := vI y8) rfl) (Mw.gp hc56 rfl rfl rfl rfl rfl (fun _ => R.add rfl rfl) ?_))
            obtain ⟨u57, e58, hm⟩ := ob hm
            refine Mw.gp hc56 rfl rfl rfl rfl rfl (fun _ => R.ix (α := List Int) o53.rd e58 rfl rfl rfl) ?_
            obtain ⟨v59, c60, r61⟩ := (o53.rd.at_ e58).cell rfl
            refine Mw.gq hc56 rfl rfl rfl rfl rfl (fun _ c => R.ld rfl rfl (cl_cell (o53.rd.at_ e58).1 rfl c60 c)) (Mw.gp hc56 rfl rfl rfl rfl rfl (fun _ => R.mv (v := vI y9) rfl) ?_)
            obtain ⟨u62, e63, hm⟩ := ob hm
            refine Mw.gp hc56 rfl rfl rfl rfl rfl (fun _ => R.ix (α := Int) r61 e63 rfl rfl rfl) (Mw.gq hc56 rfl rfl rfl rfl rfl (fun _ c => R.ld rfl rfl (cl_cell (r61.at_ e63).1 rfl (r61.at_ e63).int c)) (Mw.gp hc56 rfl rfl rfl rfl rfl (fun _ => R.mv (v := v0_3) rfl) (Mw.gp hc56 rfl rfl rfl rfl rfl (fun _ => R.mv (v := vI y8) rfl) ?_)))
            obtain ⟨u64, e65, hm⟩ := ob hm
            refine Mw.gp hc56 rfl rfl rfl rfl rfl (fun _ => R.ix (α := List Int) o53.rd e65 rfl rfl rfl) ?_
            obtain ⟨v66, c67, r68⟩ := (o53.rd.at_ e65).cell rfl
            refine Mw.gq hc56 rfl rfl rfl rfl rfl (fun _ c => R.ld rfl rfl (cl_cell (o53.rd.at_ e65).1 rfl c67 c)) (Mw.gp hc56 rfl rfl rfl rfl rfl (fun _ => R.mv (v := vI y9) rfl) (Mw.gp hc56 rfl rfl rfl rfl rfl (fun _ => R.add rfl rfl) ?_))
            obtain ⟨u69, e70, hm⟩ := ob hm
            refine Mw.gp hc56 rfl rfl rfl rfl rfl (fun _ => R.ix (α := Int) r68 e70 rfl rfl rfl) (Mw.gq hc56 rfl rfl rfl rfl rfl (fun _ c => R.ld rfl rfl (cl_cell (r68.at_ e70).1 rfl (r68.at_ e70).int c)) (Mw.gp hc56 rfl rfl rfl rfl rfl (fun _ => R.ge rfl rfl) (Mw.p rfl rfl (fun _ => R.pk hc56 rfl (v := vB (decide ((u69 : Int) ≤ (u62 : Int)))) rfl) (Mw.p rfl rfl (fun _ => R.as (v := vB (decide ((u69 : Int) ≤ (u62 : Int)))) rfl) ?_))))
            refine Mw.nil ?_
            refine ⟨?_, ⟨decide ((u69 : Int) ≤ (u62 : Int)), W51, rfl, l51, rfl, hm⟩⟩
            iterate 24 (refine Agree.up rfl ?_)
            exact Agree.refl _
    · refine Cw.draw [] [(0, 0), (1, 0), (2, 0), (3, 0), (4, 0), (5, 0), (6, 0), (7, 0), (8, 1), (9, 0), (10, 0), (11, 0), (12, 1), (13, 0), (14, 0), (15, 0)] mixed (by kernel_rfl) fun W71 l71 => ?_
      have a72 : Le LL _ _ := l71.nil
      have o73 := o14.up l71 rfl
      have o74 := o7.up l71 rfl
      have s75 := h1.ul (a4.trans (a13.trans a72))
      refine Mw.p rfl rfl (fun _ => R.mv (v := vI y9) rfl) (Mw.p rfl rfl (fun _ => R.mv (v := v1_) rfl) (Mw.p rfl rfl (fun _ => lenR (xs := x1) s75 rfl) (Mw.p rfl rfl (fun _ => R.lt rfl rfl) (Mw.p rfl rfl (fun _ => R.mv (v := vB (decide ((y9 : Int) < ((x1.length : Int) : Int)))) rfl) ?_))))
      refine bsplit (decide ((y9 : Int) < ((x1.length : Int) : Int))) (fun hc76 => ?_) (fun hc76 => ?_)
      · replace hm := bt hm hc76
        refine Mw.gp hc76 rfl rfl rfl rfl rfl (fun _ => R.mv (v := v0_) rfl) (Mw.gp hc76 rfl rfl rfl rfl rfl (fun _ => R.mv (v := vI y8) rfl) ?_)
        obtain ⟨u77, e78, hm⟩ := ob hm
        have s79 := h0.ul (a4.trans (a13.trans a72))
        refine Mw.gp hc76 rfl rfl rfl rfl rfl (fun _ => R.ix (α := Str) s79 e78 rfl rfl rfl) (Mw.gq hc76 rfl rfl rfl rfl rfl (fun _ c => R.ld rfl rfl (cl_cell (s79.at_ e78).1 rfl (s79.at_ e78).str c)) (Mw.gp hc76 rfl rfl rfl rfl rfl (fun _ => R.mv (v := v1_) rfl) (Mw.gp hc76 rfl rfl rfl rfl rfl (fun _ => R.mv (v := vI y9) rfl) ?_)))
        obtain ⟨u80, e81, hm⟩ := ob hm
        refine Mw.gp hc76 rfl rfl rfl rfl rfl (fun _ => R.ix (α := Str) s75 e81 rfl rfl rfl) (Mw.gq hc76 rfl rfl rfl rfl rfl (fun _ c => R.ld rfl rfl (cl_cell (s75.at_ e81).1 rfl (s75.at_ e81).str c)) (Mw.gp hc76 rfl rfl rfl rfl rfl (fun _ => R.seq rfl rfl) (Mw.p rfl rfl (fun _ => R.pk hc76 rfl (v := vB (u77 == u80)) rfl) (Mw.p rfl rfl (fun _ => R.as (v := vB (u77 == u80)) rfl) ?_))))
        refine Mw.nil ?_
        refine ⟨?_, ⟨(u77 == u80), W71, rfl, l71, rfl, hm⟩⟩
        iterate 16 (refine Agree.up rfl ?_)
        exact Agree.refl _
      · replace hm := bf hm hc76
        refine Mw.pass' hc76 rfl rfl rfl rfl rfl rfl ?_
        refine Mw.pass' hc76 rfl rfl rfl rfl rfl rfl ?_
        refine Mw.pass' hc76 rfl rfl rfl rfl rfl rfl ?_
        refine Mw.pass' hc76 rfl rfl rfl rfl rfl rfl ?_
        refine Mw.pass' hc76 rfl rfl rfl rfl rfl rfl ?_
        refine Mw.pass' hc76 rfl rfl rfl rfl rfl rfl ?_
        refine Mw.pass' hc76 rfl rfl rfl rfl rfl rfl ?_
        refine Mw.pass' hc76 rfl rfl rfl rfl rfl rfl ?_
        refine Mw.pass' hc76 rfl rfl rfl rfl rfl rfl ?_
        refine Mw.p rfl rfl (fun _ => R.pk hc76 rfl (v := vB false) rfl) (Mw.p rfl rfl (fun _ => R.as (v := vB false) rfl) ?_)
        refine Mw.nil ?_
        refine ⟨?_, ⟨false, W71, rfl, l71, rfl, hm⟩⟩
        iterate 16 (refine Agree.up rfl ?_)
        exact Agree.refl _
  · replace hm := bf hm hc16
    refine Cw.exit ?_
    rw [hK11] at hm
    refine Cw.seq ?_
    refine Cw.region ?_
    refine Lw.r rfl (R.mv (v := v6) rfl) (Lw.r rfl (R.as (v := v6) rfl) ?_)
    refine Lw.nil ?_
    cases hm
    exact Cw.ret (ret1 rfl (Res.mk (a4.trans a13) ⟨v6, rfl, o7.s.sub rfl rfl⟩))

theorem p96 {W : CW} {K : List Nat} {x0 : List Str} {v0_ : Value} {x1 : List Str} {v1_ : Value} {k0 : Nat} {r : (List Int)} (h0 : Rd W K [v0_] x0) (h1 : Rd W K [v1_] x1) (hm : Vm.impl_match x0 x1 = some r) : CallR Try.prog 96 [v0_, v1_].toArray W.w (Res W [] fun W' v => ∃ (u0 : Value), v = u0 ∧ Ow W' k0 [] [u0] r) :=
  (c96 (V := W.view K []) (h0.view _) (h1.view _) hm).ad (fk k0) fun _ _ ⟨u0, e, f0⟩ => ⟨u0, e, f0.back (fk_LL _)⟩

theorem c97 {V : CW} {x0 : List Str} {v0_ : Value} {x1 : List Vm.Part} {g1_ : Nat} {v1_ : Value} {r : (List Vm.Part)} (h0 : Rd V [0] [v0_] x0) (hB1 : Bx V 2 g1_ [v1_]) (h1 : Ow V 3 [] [v1_] x1) (hm : Vm.impl_mergeOf_c1 x0 x1 = some r) : CallR Try.prog 97 [v0_, ptr (bx g1_)].toArray V.w (Res V LL fun Wf v => ∃ (uc1 : Value), v = .tuple #[] ∧ Ow Wf 3 [] [uc1] r ∧ Bx Wf 2 g1_ [uc1]) := by
  unfold Vm.impl_mergeOf_c1 at hm
  obtain ⟨W0, hW0⟩ : ∃ W, W = V := ⟨V, rfl⟩
  subst hW0
  refine CallR.of Try.func97 rfl rfl rfl rfl ?_
  refine Cw.seq ?_
  refine Cw.seq ?_
  refine Cw.region ?_
  refine Lw.r rfl (R.mv (v := v0_) rfl) (Lw.r rfl (lenR (xs := x0) h0 rfl) (Lw.r rfl (R.eq rfl rfl) ?_))
  refine Lw.nil ?_
  refine Cw.cond (b := (((x0.length : Int) : Int) == (0 : Int))) rfl (fun hc1 => ?_) (fun hc1 => ?_)
  · replace hm := bt hm hc1
    cases hm
    refine Cw.ret (ret0 ?_)
    exact Res.mk (Le.refl _ _) ⟨v1_, rfl, h1, hB1⟩
  · replace hm := bf hm hc1
    refine Cw.skip ?_
    refine Cw.seq ?_
    refine Cw.region ?_
    refine Lw.r rfl (R.ld (v := v1_) rfl rfl (hB1.cell0 rfl)) (Lw.r rfl (lenR (xs := x1) h1.rd rfl) (Lw.r rfl (R.sub rfl rfl) (Lw.r rfl (R.as (v := vI (w64 ((x1.length : Int) - 1))) rfl) ?_)))
    refine Lw.nil ?_
    obtain ⟨K8, hK8, hm⟩ := jn_e hm
    refine Cw.join 10 24 [3] (fun l w => ∃ (y2 : Int) (y3 : List Vm.Part) (v4 : Value) (W7 : CW), W7.w = w ∧ Le [2, 3] W0 W7 ∧ l = [vI y2] ∧ Ow W7 3 [] [v4] y3 ∧ Bx W7 2 g1_ [v4] ∧ K8 y2 y3 = some r) ?_ ?_
    · rintro _ _ σ ⟨y2, y3, v4, W7, rfl, l7, rfl, o5, b6, hm⟩
      rw [hK8] at hm
      have a9 : Le LL _ _ := l7.sub rfl
      refine Cw.draw [3, 4] [(0, 1), (1, 0), (2, 1), (3, 0), (4, 0), (5, 0), (7, 0), (6, 2), (8, 2), (9, 0), (10, 0), (11, 3)] mixed (by kernel_rfl) fun W10 l10 => ?_
      have a11 : Le LL _ _ := l10.nil
      have o12 := o5.up l10 rfl
      have b13 := b6.up l10 rfl
      refine Mw.q rfl rfl (fun _ c => R.ld (v := v4) rfl rfl (b13.clc0 rfl rfl c)) (Mw.p rfl rfl (fun _ => R.mv (v := vI y2) rfl) (Mw.q rfl rfl (fun _ c => R.ld (v := v4) rfl rfl (b13.clc0 rfl rfl c)) (Mw.p rfl rfl (fun _ => R.mv (v := vI y2) rfl) ?_)))
      obtain ⟨u14, e15, hm⟩ := ob hm
      refine Mw.p rfl rfl (fun _ => R.ix (α := Part) o12.rd e15 rfl rfl rfl) (Mw.p rfl rfl (fun _ => R.fa rfl) (Mw.p rfl rfl (fun _ => R.mv (v := v0_) rfl) ?_))
      obtain ⟨v16, c17, r18⟩ := (Part.at1 (o12.rd.at_ e15)).cell rfl
      refine Mw.t rfl rfl (Run.tr (R.ld rfl rfl c17)) ?_
      rintro _ _ ⟨hu, rfl⟩
      obtain rfl := hu.symm
      refine ⟨⟨_, rfl, (Le.refl _ _)⟩, ?_⟩
      obtain ⟨W19, ew19, l19, o19, oh19⟩ := Ow.take (α := Part) (β := List Str) (j := 4) (jf := 1) o12 e15 c17 rfl
      rw [← ew19]
      have a20 : Le LL _ _ := l19.sub rfl
      have b21 := b13.up l19 rfl
      obtain ⟨q22, e23, hm⟩ := ob hm
      have s25 := h0.ul (a9.trans (a11.trans a20))
      refine Mw.t rfl rfl (T.appP (α := Str) o19 s25 rfl rfl e23) ?_
      rintro v24 _ ⟨W24, rfl, l24, o24⟩
      have a26 : Le LL _ _ := l24.sub rfl
      have b27 := b21.up l24 rfl
      refine ⟨⟨_, rfl, ((l19.sub (M := [3, 4]) rfl).trans (l24.sub (M := [3, 4]) rfl))⟩, ?_⟩
      obtain ⟨u28, e29, hm⟩ := ob hm
      refine Mw.p rfl rfl (fun _ => R.ix (α := Part) o12.rd e29 rfl rfl rfl) (Mw.p rfl rfl (fun _ => R.fa rfl) ?_)
      obtain ⟨q31, e32, hm⟩ := ob hm
      refine Mw.lu rfl (T.stH (α := Part) (β := List Str) (J := [4]) (oh19.up (l24.sub (M := [4]) rfl) rfl) o24.s e32 rfl rfl rfl rfl) ?_
      rintro _ _ ⟨W30, rfl, l30, o30⟩
      have a33 : Le LL _ _ := l30.sub rfl
      have b34 := b27.up l30 rfl
      refine Mw.nil ?_
      cases hm
      show RetP _ _ _ .ret _ _
      refine ret0 ?_
      exact Res.mk (a9.trans (a11.trans (a20.trans (a26.trans a33)))) ⟨v4, rfl, o30, b34⟩
    · obtain ⟨K37, hK37, hm⟩ := jn_e hm
      refine Cw.join 10 18 [18] (fun l w => ∃ (y35 : Bool) (W36 : CW), W36.w = w ∧ Le [] W0 W36 ∧ l = [vB y35] ∧ K37 y35 = some r) ?_ ?_
      · rintro _ _ σ ⟨y35, W36, rfl, l36, rfl, hm⟩
        rw [hK37] at hm
        have a38 : Le LL _ _ := l36.nil
        have o39 := h1.up l36 rfl
        have b40 := hB1.up l36 rfl
        refine Cw.cond (b := y35) rfl (fun hc41 => ?_) (fun hc41 => ?_)
        · replace hm := bt hm hc41
          refine Cw.seq ?_
          refine Cw.region ?_
          refine Lw.r rfl (R.ld (v := v1_) rfl rfl (b40.cell0 rfl)) (Lw.r rfl (R.bd (zs := [vB false, .slice none 0 0, .slice none 0 0, .slice none 0 0, .slice none 0 0]) (cs := [vB false, .slice none 0 0, .slice none 0 0, .slice none 0 0, .slice none 0 0]) [] rfl rfl rfl bp_nil) ?_)
          refine Lw.t rfl (T.bs 5 [.agg [vB false, .slice none 0 0, .slice none 0 0, .slice none 0 0, .slice none 0 0].toArray] (cs := [vB false, .slice none 0 0, .slice none 0 0, .slice none 0 0, .slice none 0 0]) rfl rfl (bsA rfl)) ?_
          rintro _ _ ⟨g42, W42, rfl, rfl, l42, b42⟩
          have a43 : Le LL _ _ := l42.nil
          have o44 := o39.up l42 rfl
          have b45 := b40.up l42 rfl
          obtain ⟨q46, e47, hm⟩ := ob hm
          refine Lw.t rfl (T.app1 (α := Part) (J := []) (K' := []) o44 b42 (Part.own false ([] : List Str) ([] : List Str) ([] : List Str) ([] : List Str) (owsN []) (owsN []) (owsN []) (owsN [])) rfl rfl e47) ?_
          rintro v48 _ ⟨W48, rfl, l48, o48⟩
          have a49 : Le LL _ _ := l48.sub rfl
          have b50 := b45.up l48 rfl
          have b51 := b42.up l48 rfl
          refine Lw.u (T.st0 (v := v48) b50 rfl rfl o48.oc rfl rfl) ?_
          rintro _ _ ⟨W52, rfl, l52, b52⟩
          have a53 : Le LL _ _ := l52.sub rfl
          have o54 := o48.up l52 rfl
          have b55 := b51.up l52 rfl
          refine Lw.nil ?_
          refine Cw.region ?_
          refine Lw.r rfl (R.mv (v := vI (w64 ((x1.length : Int) - 1))) rfl) (Lw.r rfl (R.add rfl rfl) (Lw.r rfl (R.as (v := vI (w64 ((w64 ((x1.length : Int) - 1)) + 1))) rfl) ?_))
          refine Lw.nil ?_
          refine ⟨?_, ⟨w64 ((w64 ((x1.length : Int) - 1)) + 1), q46, v48, W52, rfl, ((l36.sub rfl).trans ((l42.sub rfl).trans ((l48.sub rfl).trans (l52.sub rfl)))), rfl, o54, b52, hm⟩⟩
          iterate 7 (refine Agree.up rfl ?_)
          iterate 1 (refine Agree.up rfl ?_)
          refine Agree.ov0 rfl ?_
          exact Agree.refl _
        · replace hm := bf hm hc41
          refine Cw.skip ?_
          refine ⟨?_, ⟨w64 ((x1.length : Int) - 1), x1, v1_, W36, rfl, (l36.sub rfl), rfl, o39, b40, hm⟩⟩
          iterate 1 (refine Agree.up rfl ?_)
          refine Agree.ov0 rfl ?_
          exact Agree.refl _
      · refine Cw.region ?_
        refine Lw.r rfl (R.mv (v := vI (w64 ((x1.length : Int) - 1))) rfl) (Lw.r rfl (R.lt rfl rfl) (Lw.r rfl (R.mv (v := vB (decide ((w64 ((x1.length : Int) - 1) : Int) < (0 : Int)))) rfl) ?_))
        refine bsplit (decide ((w64 ((x1.length : Int) - 1) : Int) < (0 : Int))) (fun hc56 => ?_) (fun hc56 => ?_)
        · replace hm := bt hm hc56
          refine Lw.pass' hc56 rfl rfl rfl rfl rfl rfl rfl ?_
          refine Lw.pass' hc56 rfl rfl rfl rfl rfl rfl rfl ?_
          refine Lw.pass' hc56 rfl rfl rfl rfl rfl rfl rfl ?_
          refine Lw.pass' hc56 rfl rfl rfl rfl rfl rfl rfl ?_
          refine Lw.pass' hc56 rfl rfl rfl rfl rfl rfl rfl ?_
          refine Lw.r rfl (R.pk hc56 rfl (v := vB true) rfl) ?_
          refine Lw.nil ?_
          refine ⟨?_, ⟨true, W0, rfl, Le.refl _ _, rfl, hm⟩⟩
          iterate 9 (refine Agree.up rfl ?_)
          exact Agree.refl _
        · replace hm := bf hm hc56
          refine Lw.want' hc56 rfl rfl rfl rfl ?_
          refine Lw.r rfl (R.ld (v := v1_) rfl rfl (hB1.cell0 rfl)) ?_
          refine Lw.want' hc56 rfl rfl rfl rfl ?_
          refine Lw.r rfl (R.mv (v := vI (w64 ((x1.length : Int) - 1))) rfl) ?_
          refine Lw.want' hc56 rfl rfl rfl rfl ?_
          obtain ⟨u57, e58, hm⟩ := ob hm
          refine Lw.r rfl (R.ix (α := Part) h1.rd e58 rfl rfl rfl) ?_
          refine Lw.want' hc56 rfl rfl rfl rfl ?_
          refine Lw.r rfl (R.fa rfl) ?_
          refine Lw.want' hc56 rfl rfl rfl rfl ?_
          refine Lw.r rfl (R.ld rfl rfl (Part.at0 (h1.rd.at_ e58)).bool) (Lw.r rfl (R.pk hc56 rfl (v := vB u57.Clash) rfl) ?_)
          refine Lw.nil ?_
          refine ⟨?_, ⟨u57.Clash, W0, rfl, Le.refl _ _, rfl, hm⟩⟩
          iterate 9 (refine Agree.up rfl ?_)
          exact Agree.refl _

theorem p97 {W : CW} {K : List Nat} {x0 : List Str} {v0_ : Value} {x1 : List Vm.Part} {g1_ : Nat} {v1_ : Value} {c0 : Nat} {c1 : Nat} {r : (List Vm.Part)} (h0 : Rd W K [v0_] x0) (hB1 : Bx W c0 g1_ [v1_]) (h1 : Ow W c1 [] [v1_] x1) (hJ : okJ K [c0, c1] = true) (hm : Vm.impl_mergeOf_c1 x0 x1 = some r) : CallR Try.prog 97 [v0_, ptr (bx g1_)].toArray W.w (Res W [c0, c1] fun W' v => ∃ (uc1 : Value), v = .tuple #[] ∧ Ow W' c1 [] [uc1] r ∧ Bx W' c0 g1_ [uc1]) :=
  CallR.adJ (J := [c0, c1]) (fun c => bif Nat.beq c 0 then 0 else bif Nat.beq c 2 then c0 else bif Nat.beq c 3 then c1 else 0) (c97 (V := W.view K [c0, c1]) (h0.view _) (hB1.viewJ 0 hJ) (h1.viewJ 1 hJ) hm) fun _ _ ⟨uc1, e, f0, f1⟩ => ⟨uc1, e, Ow.backJ 1 f0 rfl, Bx.backJ 0 f1 rfl⟩

end Go.Sx
