/- Walks: each function answers as its model, printed by a program of ours. Conditions: the arguments read as they are given. -/
import Derived.Test.YtmjjhnahdmlmaaaDoorXTs
import Derived.Test.YtmjjhnahdmlmaaaDoorXMd
import Derived.Test.YtmjjhnahdmlmaaaDoorXW0
import Derived.Test.YtmjjhnahdmlmaaaDoorXW2
import Derived.Test.YtmjjhnahdmlmaaaDoorXW4
import Derived.Test.YtmjjhnahdmlmaaaDoorXW5
namespace Go.Sx
open Go Go.Proofs Go.Vm Rp
set_option linter.unusedVariables false
set_option linter.unusedSimpArgs false

theorem c5 {V : CW} {x0 : Vm.Repo} {v0_0_ : Value} {v0_1_ : Value} {x1 : Str} {x2 : Int} {r : Bool} (h0 : Rd V [0] [v0_0_, v0_1_] x0) (h99 : Gl 2 V [0]) (hm : Vm.laws_FnExactRepoBranch x0 x1 x2 = some r) : CallR Tryd.prog 5 [.agg [v0_0_, v0_1_].toArray, vS x1, vI x2].toArray V.w (Res V LL fun Wf v => v = vB r) := by
 unfold Vm.laws_FnExactRepoBranch at hm
 obtain ⟨w0_0, w0_1, he0, h0_0, h0_1⟩ := Repo.split h0
 simp only [List.cons.injEq, and_true, true_and] at he0
 obtain ⟨rfl, rfl⟩ := he0
 obtain ⟨W0, hW0⟩ : ∃ W, W = V := ⟨V, rfl⟩
 subst hW0
 refine CallR.of Tryd.func5 rfl rfl rfl rfl (Cw.seq (Cw.region (Lw.t rfl (T.box 2 (v := .agg [v0_0_, v0_1_].toArray) (cs := [v0_0_, v0_1_]) rfl rfl) ?_)))
 rintro _ _ ⟨g1, W1, rfl, rfl, l1, b1⟩
 have a2 := l1.o
 refine Lw.g (vB false) rfl (Lw.nil (Cw.seq (Cw.seq (Cw.region (Lw.m (vS x1) rfl (Lw.r rfl (R.lenS rfl) (Lw.gt rfl (Lw.nil (Cw.cond (b := decide ((1048576 : Int) < ((x1.length : Int) : Int))) rfl (fun hc3 => ?_) (fun hc3 => ?_))))))))))
 ·replace hm := bt hm hc3
  refine Cw.seq (Cw.region (Lw.g (vB true) rfl (Lw.nil ?_)))
  cases hm
  exact Cw.ret (ret1 rfl (Res.mk a2 rfl))
 ·replace hm := bf hm hc3
  refine Cw.skip (Cw.seq (Cw.region (Lw.g (vI 1048576) rfl (Lw.nil (Cw.seq (Cw.region (Lw.r rfl (R.lda (cs := [v0_0_, v0_1_]) b1.cells rfl rfl) (Lw.m (vI 1048576) rfl ?_))))))))
  obtain ⟨z6, e7, hm⟩ := ob hm
  refine Lw.t rfl (T.call rfl (p15 (K := [0])  (Repo.rd (K := [0]) x0.Commits x0.Heads (h0_0.ul a2) (h0_1.ul a2)) e7)) ?_
  rintro _ _ ⟨W8, rfl, l8, rfl⟩
  have a9 := a2.n l8
  refine Lw.g (vI z6) rfl (Lw.nil (Cw.seq (Cw.seq (Cw.region (Lw.m (vI z6) rfl (Lw.lt rfl (Lw.nil (Cw.cond (b := decide ((z6 : Int) < (0 : Int))) rfl (fun hc11 => ?_) (fun hc11 => ?_)))))))))
  ·replace hm := bt hm hc11
   refine Cw.seq (Cw.region (Lw.g (vB true) rfl (Lw.nil ?_)))
   cases hm
   exact Cw.ret (ret1 rfl (Res.mk a9 rfl))
  ·replace hm := bf hm hc11
   refine Cw.skip (Cw.seq (Cw.region (Lw.r rfl (R.lda (cs := [v0_0_, v0_1_]) (b1.up l8 rfl).cells rfl rfl) ?_)))
   obtain ⟨z14, e15, hm⟩ := ob hm
   refine Lw.t rfl (T.call rfl (p17 (K := [0]) (k0 := 3) (k1 := 4) (Repo.rd (K := [0]) x0.Commits x0.Heads (h0_0.ul a9) (h0_1.ul a9)) e15)) ?_
   rintro _ _ ⟨W16, rfl, l16, ⟨v0_0_16, v0_1_16, rfl, f16_0, f16_1⟩⟩
   have a17 := a9.n l16
   refine Lw.m (vS x1) rfl (Lw.m (vI x2) rfl ?_)
   obtain ⟨z19, e20, hm⟩ := ob hm
   refine Lw.t rfl (T.call rfl (p22 (K := [3, 4])  (x0 := (Vm.Repo.mk z14.Commits z14.Heads)) (Repo.rd (K := [3, 4]) z14.Commits z14.Heads (f16_0.rd.sub (M := [3, 4]) rfl) (f16_1.rd.sub (M := [3, 4]) rfl)) e20)) ?_
   rintro _ _ ⟨W21, rfl, l21, ⟨v0_0_21, v0_1_21, rfl, f21_0, f21_1⟩⟩
   have s22 := f21_0.sub (M := [0, 3, 4]) rfl
   have s23 := f21_1.sub (M := [0, 3, 4]) rfl
   have a24 := a17.n l21
   refine Lw.m (.tuple [.agg [v0_0_21, v0_1_21].toArray, vB z19.2].toArray) rfl (Lw.r rfl (R.ext (vs := [.agg [v0_0_21, v0_1_21].toArray, vB z19.2]) (v := .agg [v0_0_21, v0_1_21].toArray) rfl rfl) (Lw.r rfl (R.ext (vs := [.agg [v0_0_21, v0_1_21].toArray, vB z19.2]) (v := vB z19.2) rfl rfl) (Lw.t rfl (T.alloc 5 (cs := [.slice none 0 0, .slice none 0 0]) rfl) ?_)))
   rintro _ _ ⟨g28, W28, rfl, rfl, l28, b28⟩
   have a29 := a24.n l28
   refine Lw.u (T.sta (vs := [v0_0_21, v0_1_21]) b28 rfl rfl (oc_cons s22.oc (oc_cons s23.oc oc_nil)) rfl rfl) ?_
   rintro _ _ ⟨W33, rfl, l33, b33⟩
   have a34 := a29.t l33 rfl
   have b37 := ((((b1.up l8 rfl).up l16 rfl).up l21 rfl).up l28 rfl).up l33 rfl
   refine Lw.g (vB z19.2) rfl (Lw.nil (Cw.seq (Cw.region (Lw.r rfl (R.lda (cs := [v0_0_, v0_1_]) b37.cells rfl rfl) ?_))))
   obtain ⟨z40, e41, hm⟩ := ob hm
   refine Lw.t rfl (T.call rfl (p17 (K := [0]) (k0 := 6) (k1 := 7) (Repo.rd (K := [0]) x0.Commits x0.Heads (h0_0.ul a34) (h0_1.ul a34)) e41)) ?_
   rintro _ _ ⟨W42, rfl, l42, ⟨v0_0_42, v0_1_42, rfl, f42_0, f42_1⟩⟩
   have a43 := a34.n l42
   refine Lw.t rfl (T.alloc 8 (cs := [.slice none 0 0, .slice none 0 0]) rfl) ?_
   rintro _ _ ⟨g48, W48, rfl, rfl, l48, b48⟩
   have a49 := a43.n l48
   refine Lw.u (T.sta (vs := [v0_0_42, v0_1_42]) b48 rfl rfl (oc_cons (f42_0.up l48 rfl).oc (oc_cons (f42_1.up l48 rfl).oc oc_nil)) rfl rfl) ?_
   rintro _ _ ⟨W56, rfl, l56, b56⟩
   have a57 := a49.t l56 rfl
   have o60 := (f42_0.up l48 rfl).up l56 rfl
   have o61 := (f42_1.up l48 rfl).up l56 rfl
   refine Lw.nil (Cw.seq (Cw.region (Lw.r rfl (R.lda (cs := [v0_0_42, v0_1_42]) b56.cells rfl rfl) (Lw.m (vS x1) rfl (Lw.m (vI x2) rfl ?_)))))
   obtain ⟨z65, e66, hm⟩ := ob hm
   refine Lw.t rfl (T.call rfl (p23 (K := [0, 6, 7]) (k0 := 9) (k1 := 10) (x0 := (Vm.Repo.mk z40.Commits z40.Heads)) ((Repo.rd (K := [6, 7]) z40.Commits z40.Heads (o60.rd.sub (M := [6, 7]) rfl) (o61.rd.sub (M := [6, 7]) rfl)).sub (M := [0, 6, 7]) rfl) ((h99.ul a57).sub (M := [0, 6, 7]) rfl) e66)) ?_
   rintro _ _ ⟨W67, rfl, l67, ⟨v0_0_67, v0_1_67, rfl, f67_0, f67_1⟩⟩
   have a68 := a57.n l67
   refine Lw.m (.tuple [.agg [v0_0_67, v0_1_67].toArray, vB z65.2].toArray) rfl (Lw.r rfl (R.ext (vs := [.agg [v0_0_67, v0_1_67].toArray, vB z65.2]) (v := .agg [v0_0_67, v0_1_67].toArray) rfl rfl) (Lw.r rfl (R.ext (vs := [.agg [v0_0_67, v0_1_67].toArray, vB z65.2]) (v := vB z65.2) rfl rfl) (Lw.t rfl (T.alloc 11 (cs := [.slice none 0 0, .slice none 0 0]) rfl) ?_)))
   rintro _ _ ⟨g76, W76, rfl, rfl, l76, b76⟩
   have a77 := a68.n l76
   refine Lw.u (T.sta (vs := [v0_0_67, v0_1_67]) b76 rfl rfl (oc_cons (f67_0.up l76 rfl).oc (oc_cons (f67_1.up l76 rfl).oc oc_nil)) rfl rfl) ?_
   rintro _ _ ⟨W87, rfl, l87, b87⟩
   have a88 := a77.t l87 rfl
   have o93 := (f67_0.up l76 rfl).up l87 rfl
   have o94 := (f67_1.up l76 rfl).up l87 rfl
   have b96 := (((((b33.up l42 rfl).up l48 rfl).up l56 rfl).up l67 rfl).up l76 rfl).up l87 rfl
   refine Lw.g (vB z65.2) rfl (Lw.nil (Cw.seq ?_))
   obtain ⟨K100, hK100, hm⟩ := jn_e hm
   refine Cw.join 43 51 [51] (fun l w => ∃ (y98 : Bool) (W99 : CW), W99.w = w ∧ Le [] W87 W99 ∧ l = [vB y98] ∧ K100 y98 = some r) ?_ ?_
   ·rintro _ _ σ ⟨y98, W99, rfl, l99, rfl, hm⟩
    rw [hK100] at hm
    have a101 := a88.n l99
    refine Cw.cond (b := y98) rfl (fun hc112 => ?_) (fun hc112 => ?_)
    ·replace hm := bt hm hc112
     refine Cw.seq (Cw.region (Lw.g (vB false) rfl (Lw.nil ?_)))
     cases hm
     exact Cw.ret (ret1 rfl (Res.mk a101 rfl))
    ·replace hm := bf hm hc112
     refine Cw.skip (Cw.seq (Cw.seq (Cw.draw [] [(0, 1), (1, 1), (2, 2), (3, 2), (4, 0)] mixed (by kernel_rfl) fun W113 l113 => ?_)))
     have a114 := a101.n l113
     have b121 := (((((((b37.up l42 rfl).up l48 rfl).up l56 rfl).up l67 rfl).up l76 rfl).up l87 rfl).up l99 rfl).up l113 rfl
     have b123 := ((((b56.up l67 rfl).up l76 rfl).up l87 rfl).up l99 rfl).up l113 rfl
     refine Mw.q rfl rfl (fun _ c => R.lda (cs := [v0_0_42, v0_1_42]) (b123.clcs rfl c) rfl rfl) (Mw.q rfl rfl (fun _ c => R.lda (cs := [v0_0_, v0_1_]) (b121.clcs rfl c) rfl rfl) ?_)
     obtain ⟨z127, e128, hm⟩ := ob hm
     refine Mw.t rfl rfl (T.call rfl (p17 (K := [0]) (k0 := 12) (k1 := 13) (Repo.rd (K := [0]) x0.Commits x0.Heads (h0_0.ul a114) (h0_1.ul a114)) e128)) ?_
     rintro _ _ ⟨W129, rfl, l129, ⟨v0_0_129, v0_1_129, rfl, f129_0, f129_1⟩⟩
     have a130 := a114.n l129
     have o133 := (((((o60.up l67 rfl).up l76 rfl).up l87 rfl).up l99 rfl).up l113 rfl).up l129 rfl
     have o134 := (((((o61.up l67 rfl).up l76 rfl).up l87 rfl).up l99 rfl).up l113 rfl).up l129 rfl
     refine ⟨⟨_, rfl, (l129.sub (M := []) rfl)⟩, ?_⟩
     obtain ⟨z141, e142, hm⟩ := ob hm
     refine Mw.t rfl rfl (T.call rfl (p19 (K := [6, 7, 12, 13])  (x0 := (Vm.Repo.mk z40.Commits z40.Heads)) (x1 := (Vm.Repo.mk z127.Commits z127.Heads)) ((Repo.rd (K := [6, 7]) z40.Commits z40.Heads (o133.rd.sub (M := [6, 7]) rfl) (o134.rd.sub (M := [6, 7]) rfl)).sub (M := [6, 7, 12, 13]) rfl) ((Repo.rd (K := [12, 13]) z127.Commits z127.Heads (f129_0.rd.sub (M := [12, 13]) rfl) (f129_1.rd.sub (M := [12, 13]) rfl)).sub (M := [6, 7, 12, 13]) rfl) e142)) ?_
     rintro _ _ ⟨W143, rfl, l143, rfl⟩
     have a144 := a130.n l143
     refine ⟨⟨_, rfl, ((l129.sub (M := []) rfl).trans (l143.sub (M := []) rfl))⟩, ?_⟩
     refine Mw.p rfl rfl (fun _ => R.not rfl) (Mw.nil (Cw.cond (b := (!z141)) rfl (fun hc157 => ?_) (fun hc157 => ?_)))
     ·replace hm := bt hm hc157
      refine Cw.seq (Cw.region (Lw.g (vB false) rfl (Lw.nil ?_)))
      cases hm
      exact Cw.ret (ret1 rfl (Res.mk a144 rfl))
     ·replace hm := bf hm hc157
      refine Cw.skip (Cw.seq (Cw.region (Lw.g (vI 1) rfl (Lw.nil (Cw.seq (Cw.region (Lw.r rfl (R.lda (cs := [v0_0_42, v0_1_42]) ((b123.up l129 rfl).up l143 rfl).cells rfl rfl) (Lw.m (vI 1) rfl ?_))))))))
      obtain ⟨z158, e159, hm⟩ := ob hm
      refine Lw.t rfl (T.call rfl (p20 (K := [0])  (c0 := 6) (c1 := 7) (x0 := (Vm.Repo.mk z40.Commits z40.Heads)) (o133.up l143 rfl) (o134.up l143 rfl) rfl e159)) ?_
      rintro _ _ ⟨W160, rfl, l160, ⟨rfl, f160_0, f160_1⟩⟩
      have a161 := a144.t l160 rfl
      have o164 := ((((o93.up l99 rfl).up l113 rfl).up l129 rfl).up l143 rfl).up l160 rfl
      have o165 := ((((o94.up l99 rfl).up l113 rfl).up l129 rfl).up l143 rfl).up l160 rfl
      have b169 := ((((b96.up l99 rfl).up l113 rfl).up l129 rfl).up l143 rfl).up l160 rfl
      have b171 := ((((b87.up l99 rfl).up l113 rfl).up l129 rfl).up l143 rfl).up l160 rfl
      refine Lw.g (vI z158.1) rfl (Lw.nil (Cw.seq ?_))
      obtain ⟨K174, hK174, hm⟩ := jn_e hm
      refine Cw.join 60 72 [72] (fun l w => ∃ (y172 : Bool) (W173 : CW), W173.w = w ∧ Le [] W160 W173 ∧ l = [vB y172] ∧ K174 y172 = some r) ?_ ?_
      ·rintro _ _ σ ⟨y172, W173, rfl, l173, rfl, hm⟩
       rw [hK174] at hm
       have a175 := a161.n l173
       refine Cw.cond (b := y172) rfl (fun hc188 => ?_) (fun hc188 => ?_)
       ·replace hm := bt hm hc188
        refine Cw.seq (Cw.region (Lw.g (vB false) rfl (Lw.nil ?_)))
        cases hm
        exact Cw.ret (ret1 rfl (Res.mk a175 rfl))
       ·replace hm := bf hm hc188
        refine Cw.skip (Cw.seq (Cw.region (Lw.g (vI 1) rfl (Lw.nil (Cw.seq (Cw.region (Lw.r rfl (R.lda (cs := [v0_0_67, v0_1_67]) (b171.up l173 rfl).cells rfl rfl) (Lw.m (vI 1) rfl ?_))))))))
        obtain ⟨z189, e190, hm⟩ := ob hm
        refine Lw.t rfl (T.call rfl (p20 (K := [0])  (c0 := 9) (c1 := 10) (x0 := (Vm.Repo.mk z65.1.Commits z65.1.Heads)) (o164.up l173 rfl) (o165.up l173 rfl) rfl e190)) ?_
        rintro _ _ ⟨W191, rfl, l191, ⟨rfl, f191_0, f191_1⟩⟩
        have a192 := a175.t l191 rfl
        have b202 := (b171.up l173 rfl).up l191 rfl
        refine Lw.g (vI z189.1) rfl (Lw.nil (Cw.seq (Cw.region (Lw.g (vI 1) rfl (Lw.nil (Cw.seq (Cw.region (Lw.r rfl (R.lda (cs := [v0_0_67, v0_1_67]) b202.cells rfl rfl) (Lw.m (vI 1) rfl ?_)))))))))
        obtain ⟨z203, e204, hm⟩ := ob hm
        refine Lw.t rfl (T.call rfl (p21 (K := [9, 10])  (x0 := (Vm.Repo.mk z189.2.Commits z189.2.Heads)) (Repo.rd (K := [9, 10]) z189.2.Commits z189.2.Heads (f191_0.rd.sub (M := [9, 10]) rfl) (f191_1.rd.sub (M := [9, 10]) rfl)) e204)) ?_
        rintro _ _ ⟨W205, rfl, l205, rfl⟩
        have a206 := a192.n l205
        refine Lw.g (vI z203) rfl (Lw.nil (Cw.seq (Cw.seq (Cw.region (Lw.m (vI z203) rfl (Lw.lt rfl (Lw.nil (Cw.cond (b := decide ((z203 : Int) < (0 : Int))) rfl (fun hc219 => ?_) (fun hc219 => ?_)))))))))
        ·replace hm := bt hm hc219
         refine Cw.seq (Cw.region (Lw.g (vB false) rfl (Lw.nil ?_)))
         cases hm
         exact Cw.ret (ret1 rfl (Res.mk a206 rfl))
        ·replace hm := bf hm hc219
         refine Cw.skip (Cw.seq (Cw.seq (Cw.region (Lw.m (vI z203) rfl (Lw.m (vI z189.1) rfl (Lw.ne rfl (Lw.nil (Cw.cond (b := ((z203 : Int) != (z189.1 : Int))) rfl (fun hc220 => ?_) (fun hc220 => ?_)))))))))
         ·replace hm := bt hm hc220
          refine Cw.seq (Cw.region (Lw.g (vB false) rfl (Lw.nil ?_)))
          cases hm
          exact Cw.ret (ret1 rfl (Res.mk a206 rfl))
         ·replace hm := bf hm hc220
          refine Cw.skip (Cw.seq (Cw.region (Lw.r rfl (R.lda (cs := [v0_0_, v0_1_]) ((((((b121.up l129 rfl).up l143 rfl).up l160 rfl).up l173 rfl).up l191 rfl).up l205 rfl).cells rfl rfl) ?_)))
          obtain ⟨z223, e224, hm⟩ := ob hm
          refine Lw.t rfl (T.call rfl (p17 (K := [0]) (k0 := 14) (k1 := 15) (Repo.rd (K := [0]) x0.Commits x0.Heads (h0_0.ul a206) (h0_1.ul a206)) e224)) ?_
          rintro _ _ ⟨W225, rfl, l225, ⟨v0_0_225, v0_1_225, rfl, f225_0, f225_1⟩⟩
          have a226 := a206.n l225
          refine Lw.m (vS x1) rfl (Lw.m (vI x2) rfl ?_)
          obtain ⟨z240, e241, hm⟩ := ob hm
          refine Lw.t rfl (T.call rfl (p23 (K := [0, 14, 15]) (k0 := 16) (k1 := 17) (x0 := (Vm.Repo.mk z223.Commits z223.Heads)) ((Repo.rd (K := [14, 15]) z223.Commits z223.Heads (f225_0.rd.sub (M := [14, 15]) rfl) (f225_1.rd.sub (M := [14, 15]) rfl)).sub (M := [0, 14, 15]) rfl) ((h99.ul a226).sub (M := [0, 14, 15]) rfl) e241)) ?_
          rintro _ _ ⟨W242, rfl, l242, ⟨v0_0_242, v0_1_242, rfl, f242_0, f242_1⟩⟩
          have a243 := a226.n l242
          refine Lw.m (.tuple [.agg [v0_0_242, v0_1_242].toArray, vB z240.2].toArray) rfl (Lw.r rfl (R.ext (vs := [.agg [v0_0_242, v0_1_242].toArray, vB z240.2]) (v := .agg [v0_0_242, v0_1_242].toArray) rfl rfl) (Lw.r rfl (R.ext (vs := [.agg [v0_0_242, v0_1_242].toArray, vB z240.2]) (v := vB z240.2) rfl rfl) (Lw.t rfl (T.alloc 18 (cs := [.slice none 0 0, .slice none 0 0]) rfl) ?_)))
          rintro _ _ ⟨g258, W258, rfl, rfl, l258, b258⟩
          have a259 := a243.n l258
          refine Lw.u (T.sta (vs := [v0_0_242, v0_1_242]) b258 rfl rfl (oc_cons (f242_0.up l258 rfl).oc (oc_cons (f242_1.up l258 rfl).oc oc_nil)) rfl rfl) ?_
          rintro _ _ ⟨W276, rfl, l276, b276⟩
          have a277 := a259.t l276 rfl
          refine Lw.g (vB z240.2) rfl (Lw.nil (Cw.seq ?_))
          obtain ⟨K296, hK296, hm⟩ := jn_e hm
          refine Cw.join 92 100 [100] (fun l w => ∃ (y294 : Bool) (W295 : CW), W295.w = w ∧ Le [] W276 W295 ∧ l = [vB y294] ∧ K296 y294 = some r) ?_ ?_
          ·rintro _ _ σ ⟨y294, W295, rfl, l295, rfl, hm⟩
           rw [hK296] at hm
           have a297 := a277.n l295
           refine Cw.cond (b := y294) rfl (fun hc315 => ?_) (fun hc315 => ?_)
           ·replace hm := bt hm hc315
            refine Cw.seq (Cw.region (Lw.g (vB false) rfl (Lw.nil ?_)))
            cases hm
            exact Cw.ret (ret1 rfl (Res.mk a297 rfl))
           ·replace hm := bf hm hc315
            refine Cw.skip (Cw.seq (Cw.region (Lw.g (vI 1) rfl (Lw.nil (Cw.seq (Cw.region (Lw.r rfl (R.lda (cs := [v0_0_67, v0_1_67]) ((((((b202.up l205 rfl).up l225 rfl).up l242 rfl).up l258 rfl).up l276 rfl).up l295 rfl).cells rfl rfl) (Lw.m (vI 1) rfl ?_))))))))
            obtain ⟨z316, e317, hm⟩ := ob hm
            refine Lw.t rfl (T.call rfl (p21 (K := [9, 10])  (x0 := (Vm.Repo.mk z189.2.Commits z189.2.Heads)) (Repo.rd (K := [9, 10]) z189.2.Commits z189.2.Heads (((((((f191_0.up l205 rfl).up l225 rfl).up l242 rfl).up l258 rfl).up l276 rfl).up l295 rfl).rd.sub (M := [9, 10]) rfl) (((((((f191_1.up l205 rfl).up l225 rfl).up l242 rfl).up l258 rfl).up l276 rfl).up l295 rfl).rd.sub (M := [9, 10]) rfl)) e317)) ?_
            rintro _ _ ⟨W318, rfl, l318, rfl⟩
            have a319 := a297.n l318
            refine Lw.g (vI z316) rfl (Lw.nil (Cw.seq (Cw.seq (Cw.region (Lw.m (vI z316) rfl (Lw.lt rfl (Lw.nil (Cw.cond (b := decide ((z316 : Int) < (0 : Int))) rfl (fun hc337 => ?_) (fun hc337 => ?_)))))))))
            ·replace hm := bt hm hc337
             refine Cw.seq (Cw.region (Lw.g (vB false) rfl (Lw.nil ?_)))
             cases hm
             exact Cw.ret (ret1 rfl (Res.mk a319 rfl))
            ·replace hm := bf hm hc337
             refine Cw.skip (Cw.seq (Cw.seq (Cw.region (Lw.m (vI z316) rfl (Lw.m (vI z189.1) rfl (Lw.ne rfl (Lw.nil (Cw.cond (b := ((z316 : Int) != (z189.1 : Int))) rfl (fun hc338 => ?_) (fun hc338 => ?_)))))))))
             ·replace hm := bt hm hc338
              refine Cw.seq (Cw.region (Lw.g (vB false) rfl (Lw.nil ?_)))
              cases hm
              exact Cw.ret (ret1 rfl (Res.mk a319 rfl))
             ·replace hm := bf hm hc338
              refine Cw.skip (Cw.seq (Cw.region (Lw.g (vB true) rfl (Lw.nil ?_))))
              cases hm
              exact Cw.ret (ret1 rfl (Res.mk a319 rfl))
          ·refine Cw.region (Lw.r rfl (R.lda (cs := [v0_0_242, v0_1_242]) b276.cells rfl rfl) (Lw.r rfl (R.lda (cs := [v0_0_21, v0_1_21]) (((((((b169.up l173 rfl).up l191 rfl).up l205 rfl).up l225 rfl).up l242 rfl).up l258 rfl).up l276 rfl).cells rfl rfl) ?_))
           have s339 := s22.up ((l28.sub (M := [5, 6, 7, 8, 9, 10, 11, 18]) rfl).trans ((l33.sub (M := [5, 6, 7, 8, 9, 10, 11, 18]) rfl).trans ((l42.sub (M := [5, 6, 7, 8, 9, 10, 11, 18]) rfl).trans ((l48.sub (M := [5, 6, 7, 8, 9, 10, 11, 18]) rfl).trans ((l56.sub (M := [5, 6, 7, 8, 9, 10, 11, 18]) rfl).trans ((l67.sub (M := [5, 6, 7, 8, 9, 10, 11, 18]) rfl).trans ((l76.sub (M := [5, 6, 7, 8, 9, 10, 11, 18]) rfl).trans ((l87.sub (M := [5, 6, 7, 8, 9, 10, 11, 18]) rfl).trans ((l99.sub (M := [5, 6, 7, 8, 9, 10, 11, 18]) rfl).trans ((l113.sub (M := [5, 6, 7, 8, 9, 10, 11, 18]) rfl).trans ((l129.sub (M := [5, 6, 7, 8, 9, 10, 11, 18]) rfl).trans ((l143.sub (M := [5, 6, 7, 8, 9, 10, 11, 18]) rfl).trans ((l160.sub (M := [5, 6, 7, 8, 9, 10, 11, 18]) rfl).trans ((l173.sub (M := [5, 6, 7, 8, 9, 10, 11, 18]) rfl).trans ((l191.sub (M := [5, 6, 7, 8, 9, 10, 11, 18]) rfl).trans ((l205.sub (M := [5, 6, 7, 8, 9, 10, 11, 18]) rfl).trans ((l225.sub (M := [5, 6, 7, 8, 9, 10, 11, 18]) rfl).trans ((l242.sub (M := [5, 6, 7, 8, 9, 10, 11, 18]) rfl).trans ((l258.sub (M := [5, 6, 7, 8, 9, 10, 11, 18]) rfl).trans (l276.sub (M := [5, 6, 7, 8, 9, 10, 11, 18]) rfl)))))))))))))))))))) rfl
           have s340 := s23.up ((l28.sub (M := [5, 6, 7, 8, 9, 10, 11, 18]) rfl).trans ((l33.sub (M := [5, 6, 7, 8, 9, 10, 11, 18]) rfl).trans ((l42.sub (M := [5, 6, 7, 8, 9, 10, 11, 18]) rfl).trans ((l48.sub (M := [5, 6, 7, 8, 9, 10, 11, 18]) rfl).trans ((l56.sub (M := [5, 6, 7, 8, 9, 10, 11, 18]) rfl).trans ((l67.sub (M := [5, 6, 7, 8, 9, 10, 11, 18]) rfl).trans ((l76.sub (M := [5, 6, 7, 8, 9, 10, 11, 18]) rfl).trans ((l87.sub (M := [5, 6, 7, 8, 9, 10, 11, 18]) rfl).trans ((l99.sub (M := [5, 6, 7, 8, 9, 10, 11, 18]) rfl).trans ((l113.sub (M := [5, 6, 7, 8, 9, 10, 11, 18]) rfl).trans ((l129.sub (M := [5, 6, 7, 8, 9, 10, 11, 18]) rfl).trans ((l143.sub (M := [5, 6, 7, 8, 9, 10, 11, 18]) rfl).trans ((l160.sub (M := [5, 6, 7, 8, 9, 10, 11, 18]) rfl).trans ((l173.sub (M := [5, 6, 7, 8, 9, 10, 11, 18]) rfl).trans ((l191.sub (M := [5, 6, 7, 8, 9, 10, 11, 18]) rfl).trans ((l205.sub (M := [5, 6, 7, 8, 9, 10, 11, 18]) rfl).trans ((l225.sub (M := [5, 6, 7, 8, 9, 10, 11, 18]) rfl).trans ((l242.sub (M := [5, 6, 7, 8, 9, 10, 11, 18]) rfl).trans ((l258.sub (M := [5, 6, 7, 8, 9, 10, 11, 18]) rfl).trans (l276.sub (M := [5, 6, 7, 8, 9, 10, 11, 18]) rfl)))))))))))))))))))) rfl
           obtain ⟨z341, e342, hm⟩ := ob hm
           refine Lw.t rfl (T.call rfl (p19 (K := [0, 3, 4, 16, 17])  (x0 := (Vm.Repo.mk z240.1.Commits z240.1.Heads)) ((Repo.rd (K := [16, 17]) z240.1.Commits z240.1.Heads (((f242_0.up l258 rfl).up l276 rfl).rd.sub (M := [16, 17]) rfl) (((f242_1.up l258 rfl).up l276 rfl).rd.sub (M := [16, 17]) rfl)).sub (M := [0, 3, 4, 16, 17]) rfl) ((Repo.rd (K := [0, 3, 4]) z19.1.Commits z19.1.Heads s339 s340).sub (M := [0, 3, 4, 16, 17]) rfl) e342)) ?_
           rintro _ _ ⟨W343, rfl, l343, rfl⟩
           refine Lw.r rfl (R.not rfl) (Lw.m (vB (!z341)) rfl (bsplit (!z341) (fun hc362 => ?_) (fun hc362 => ?_)))
           ·replace hm := bt hm hc362
            refine Lw.ps hc362 rfl (Lw.ps hc362 rfl (Lw.ps hc362 rfl (Lw.p hc362 (vB true) rfl (Lw.nil (⟨?_, ⟨true, W343, rfl, l343, rfl, hm⟩⟩)))))
            iterate 9 (refine .u ?_)
            exact Agree.refl _
           ·replace hm := bf hm hc362
            refine Lw.wa hc362 rfl (Lw.m (vB z240.2) rfl (Lw.wa hc362 rfl (Lw.m (vB z19.2) rfl (Lw.wa hc362 rfl (Lw.r rfl (R.bne rfl rfl) (Lw.p hc362 (vB (z240.2 != z19.2)) rfl (Lw.nil (⟨?_, ⟨(z240.2 != z19.2), W343, rfl, l343, rfl, hm⟩⟩))))))))
            iterate 9 (refine .u ?_)
            exact Agree.refl _
      ·refine Cw.region (Lw.m (vI z158.1) rfl (Lw.lt rfl (Lw.m (vB (decide ((z158.1 : Int) < (0 : Int)))) rfl (bsplit (decide ((z158.1 : Int) < (0 : Int))) (fun hc363 => ?_) (fun hc363 => ?_)))))
       ·replace hm := bt hm hc363
        refine Lw.ps hc363 rfl (Lw.ps hc363 rfl (Lw.ps hc363 rfl (Lw.ps hc363 rfl (Lw.p hc363 (vB true) rfl (Lw.m (vB true) rfl (Lw.ps rfl rfl (Lw.ps rfl rfl (Lw.ps rfl rfl (Lw.p rfl (vB true) rfl (Lw.nil (⟨?_, ⟨true, W160, rfl, Le.refl _ _, rfl, hm⟩⟩)))))))))))
        iterate 13 (refine .u ?_)
        exact Agree.refl _
       ·replace hm := bf hm hc363
        refine Lw.wa hc363 rfl (Lw.r rfl (R.lda (cs := [v0_0_67, v0_1_67]) b171.cells rfl rfl) (Lw.wa hc363 rfl (Lw.r rfl (R.lda (cs := [v0_0_21, v0_1_21]) b169.cells rfl rfl) (Lw.wa hc363 rfl ?_))))
        have s364 := s22.up ((l28.sub (M := [5, 6, 7, 8, 11]) rfl).trans ((l33.sub (M := [5, 6, 7, 8, 11]) rfl).trans ((l42.sub (M := [5, 6, 7, 8, 11]) rfl).trans ((l48.sub (M := [5, 6, 7, 8, 11]) rfl).trans ((l56.sub (M := [5, 6, 7, 8, 11]) rfl).trans ((l67.sub (M := [5, 6, 7, 8, 11]) rfl).trans ((l76.sub (M := [5, 6, 7, 8, 11]) rfl).trans ((l87.sub (M := [5, 6, 7, 8, 11]) rfl).trans ((l99.sub (M := [5, 6, 7, 8, 11]) rfl).trans ((l113.sub (M := [5, 6, 7, 8, 11]) rfl).trans ((l129.sub (M := [5, 6, 7, 8, 11]) rfl).trans ((l143.sub (M := [5, 6, 7, 8, 11]) rfl).trans (l160.sub (M := [5, 6, 7, 8, 11]) rfl))))))))))))) rfl
        have s365 := s23.up ((l28.sub (M := [5, 6, 7, 8, 11]) rfl).trans ((l33.sub (M := [5, 6, 7, 8, 11]) rfl).trans ((l42.sub (M := [5, 6, 7, 8, 11]) rfl).trans ((l48.sub (M := [5, 6, 7, 8, 11]) rfl).trans ((l56.sub (M := [5, 6, 7, 8, 11]) rfl).trans ((l67.sub (M := [5, 6, 7, 8, 11]) rfl).trans ((l76.sub (M := [5, 6, 7, 8, 11]) rfl).trans ((l87.sub (M := [5, 6, 7, 8, 11]) rfl).trans ((l99.sub (M := [5, 6, 7, 8, 11]) rfl).trans ((l113.sub (M := [5, 6, 7, 8, 11]) rfl).trans ((l129.sub (M := [5, 6, 7, 8, 11]) rfl).trans ((l143.sub (M := [5, 6, 7, 8, 11]) rfl).trans (l160.sub (M := [5, 6, 7, 8, 11]) rfl))))))))))))) rfl
        obtain ⟨z366, e367, hm⟩ := ob hm
        refine Lw.t rfl (T.call rfl (p19 (K := [0, 3, 4, 9, 10])  (x0 := (Vm.Repo.mk z65.1.Commits z65.1.Heads)) ((Repo.rd (K := [9, 10]) z65.1.Commits z65.1.Heads (o164.rd.sub (M := [9, 10]) rfl) (o165.rd.sub (M := [9, 10]) rfl)).sub (M := [0, 3, 4, 9, 10]) rfl) ((Repo.rd (K := [0, 3, 4]) z19.1.Commits z19.1.Heads s364 s365).sub (M := [0, 3, 4, 9, 10]) rfl) e367)) ?_
        rintro _ _ ⟨W368, rfl, l368, rfl⟩
        refine Lw.wa hc363 rfl (Lw.r rfl (R.not rfl) (Lw.p hc363 (vB (!z366)) rfl (Lw.m (vB (!z366)) rfl (bsplit (!z366) (fun hc382 => ?_) (fun hc382 => ?_)))))
        ·replace hm := bt hm hc382
         refine Lw.ps hc382 rfl (Lw.ps hc382 rfl (Lw.ps hc382 rfl (Lw.p hc382 (vB true) rfl (Lw.nil (⟨?_, ⟨true, W368, rfl, l368, rfl, hm⟩⟩)))))
         iterate 13 (refine .u ?_)
         exact Agree.refl _
        ·replace hm := bf hm hc382
         refine Lw.wa hc382 rfl (Lw.m (vB z65.2) rfl (Lw.wa hc382 rfl (Lw.m (vB z19.2) rfl (Lw.wa hc382 rfl (Lw.r rfl (R.bne rfl rfl) (Lw.p hc382 (vB (z65.2 != z19.2)) rfl (Lw.nil (⟨?_, ⟨(z65.2 != z19.2), W368, rfl, l368, rfl, hm⟩⟩))))))))
         iterate 13 (refine .u ?_)
         exact Agree.refl _
   ·refine Cw.region (Lw.r rfl (R.lda (cs := [v0_0_67, v0_1_67]) b87.cells rfl rfl) (Lw.r rfl (R.lda (cs := [v0_0_21, v0_1_21]) b96.cells rfl rfl) ?_))
    have s383 := s22.up ((l28.sub (M := [5, 8, 11]) rfl).trans ((l33.sub (M := [5, 8, 11]) rfl).trans ((l42.sub (M := [5, 8, 11]) rfl).trans ((l48.sub (M := [5, 8, 11]) rfl).trans ((l56.sub (M := [5, 8, 11]) rfl).trans ((l67.sub (M := [5, 8, 11]) rfl).trans ((l76.sub (M := [5, 8, 11]) rfl).trans (l87.sub (M := [5, 8, 11]) rfl)))))))) rfl
    have s384 := s23.up ((l28.sub (M := [5, 8, 11]) rfl).trans ((l33.sub (M := [5, 8, 11]) rfl).trans ((l42.sub (M := [5, 8, 11]) rfl).trans ((l48.sub (M := [5, 8, 11]) rfl).trans ((l56.sub (M := [5, 8, 11]) rfl).trans ((l67.sub (M := [5, 8, 11]) rfl).trans ((l76.sub (M := [5, 8, 11]) rfl).trans (l87.sub (M := [5, 8, 11]) rfl)))))))) rfl
    obtain ⟨z385, e386, hm⟩ := ob hm
    refine Lw.t rfl (T.call rfl (p19 (K := [0, 3, 4, 9, 10])  (x0 := (Vm.Repo.mk z65.1.Commits z65.1.Heads)) ((Repo.rd (K := [9, 10]) z65.1.Commits z65.1.Heads (o93.rd.sub (M := [9, 10]) rfl) (o94.rd.sub (M := [9, 10]) rfl)).sub (M := [0, 3, 4, 9, 10]) rfl) ((Repo.rd (K := [0, 3, 4]) z19.1.Commits z19.1.Heads s383 s384).sub (M := [0, 3, 4, 9, 10]) rfl) e386)) ?_
    rintro _ _ ⟨W387, rfl, l387, rfl⟩
    refine Lw.r rfl (R.not rfl) (Lw.m (vB (!z385)) rfl (bsplit (!z385) (fun hc399 => ?_) (fun hc399 => ?_)))
    ·replace hm := bt hm hc399
     refine Lw.ps hc399 rfl (Lw.ps hc399 rfl (Lw.ps hc399 rfl (Lw.p hc399 (vB true) rfl (Lw.nil (⟨?_, ⟨true, W387, rfl, l387, rfl, hm⟩⟩)))))
     iterate 9 (refine .u ?_)
     exact Agree.refl _
    ·replace hm := bf hm hc399
     refine Lw.wa hc399 rfl (Lw.m (vB z65.2) rfl (Lw.wa hc399 rfl (Lw.m (vB z19.2) rfl (Lw.wa hc399 rfl (Lw.r rfl (R.bne rfl rfl) (Lw.p hc399 (vB (z65.2 != z19.2)) rfl (Lw.nil (⟨?_, ⟨(z65.2 != z19.2), W387, rfl, l387, rfl, hm⟩⟩))))))))
     iterate 9 (refine .u ?_)
     exact Agree.refl _

theorem p5 {W : CW} {K : List Nat} {x0 : Vm.Repo} {v0_0_ : Value} {v0_1_ : Value} {x1 : Str} {x2 : Int} {r : Bool} (h0 : Rd W K [v0_0_, v0_1_] x0) (h99 : Gl 2 W K) (hm : Vm.laws_FnExactRepoBranch x0 x1 x2 = some r) : CallR Tryd.prog 5 [.agg [v0_0_, v0_1_].toArray, vS x1, vI x2].toArray W.w (Res W [] fun W' v => v = vB r) :=
 (c5 (V := W.view K []) (h0.view _) (h99.view _) hm).ad (fk 0) fun _ _ e => e

end Go.Sx
