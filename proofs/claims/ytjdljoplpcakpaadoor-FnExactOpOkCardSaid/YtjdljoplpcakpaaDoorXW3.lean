/- Walks: each function answers as its model, printed by a program of ours. Conditions: the arguments read as they are given. -/
import Derived.Test.YtjdljoplpcakpaaDoorXTs
import Derived.Test.YtjdljoplpcakpaaDoorXMd
import Derived.Test.YtjdljoplpcakpaaDoorXW0
import Derived.Test.YtjdljoplpcakpaaDoorXW1
import Derived.Test.YtjdljoplpcakpaaDoorXW2
import Derived.Test.YtjdljoplpcakpaaDoorXE
namespace Go.Sx
open Go Go.Proofs Go.Vm Rp
set_option linter.unusedVariables false
set_option linter.unusedSimpArgs false

theorem c25 {V : CW} {x0 : Vm.Op} {v0_6_ : Value} {r : Bool} (h0 : Rd V [0] [vI x0.Kind, vS x0.Branch, vS x0.Who, vS x0.Path, vS x0.To, vI x0.At, v0_6_] x0) (hm : Vm.spec_l19Ok x0 = some r) : CallR Tryd.prog 25 [.agg [vI x0.Kind, vS x0.Branch, vS x0.Who, vS x0.Path, vS x0.To, vI x0.At, v0_6_].toArray].toArray V.w (Res V LL fun Wf v => v = vB r) := by
 unfold Vm.spec_l19Ok at hm
 obtain ⟨w0_0, he0, h0_6⟩ := Op.split h0
 simp only [List.cons.injEq, and_true, true_and] at he0
 obtain rfl := he0
 obtain ⟨W0, hW0⟩ : ∃ W, W = V := ⟨V, rfl⟩
 subst hW0
 refine CallR.of Tryd.func25 rfl rfl rfl rfl (Cw.seq (Cw.region (Lw.t rfl (T.box 2 (v := .agg [vI x0.Kind, vS x0.Branch, vS x0.Who, vS x0.Path, vS x0.To, vI x0.At, v0_6_].toArray) (cs := [vI x0.Kind, vS x0.Branch, vS x0.Who, vS x0.Path, vS x0.To, vI x0.At, v0_6_]) rfl rfl) ?_)))
 rintro _ _ ⟨g1, W1, rfl, rfl, l1, b1⟩
 have a2 := l1.o
 refine Lw.g (vB false) rfl (Lw.nil (Cw.seq ?_))
 obtain ⟨K5, hK5, hm⟩ := jn_e hm
 refine Cw.join 3 12 [12] (fun l w => ∃ (y3 : Bool) (W4 : CW), W4.w = w ∧ Le [] W1 W4 ∧ l = [vB y3] ∧ K5 y3 = some r) ?_ ?_
 ·rintro _ _ σ ⟨y3, W4, rfl, l4, rfl, hm⟩
  rw [hK5] at hm
  have a6 := a2.n l4
  have b7 := b1.up l4 rfl
  refine Cw.cond (b := y3) rfl (fun hc8 => ?_) (fun hc8 => ?_)
  ·replace hm := bt hm hc8
   refine Cw.seq (Cw.region (Lw.g (vB false) rfl (Lw.nil ?_)))
   cases hm
   exact Cw.ret (ret1 rfl (Res.mk a6 rfl))
  ·replace hm := bf hm hc8
   refine Cw.skip (Cw.seq (Cw.seq (Cw.region (Lw.fa rfl (Lw.r rfl (R.ld (v := vI x0.Kind) rfl rfl (b7.cell rfl)) (Lw.nil (Cw.block (Cw.seq (Cw.region (Lw.eq rfl (Lw.g (vB ((x0.Kind : Int) == (1 : Int))) rfl (Lw.nil (Cw.cond (b := ((x0.Kind : Int) == (1 : Int))) rfl (fun hc9 => ?_) (fun hc9 => ?_))))))))))))))
   ·replace hm := bt hm hc9
    obtain ⟨K12, hK12, hm⟩ := jn_e hm
    refine Cw.join 17 28 [2] (fun l w => ∃ (y10 : Bool) (W11 : CW), W11.w = w ∧ Le [] W4 W11 ∧ l = [vB y10] ∧ K12 y10 = some r) ?_ ?_
    ·rintro _ _ σ ⟨y10, W11, rfl, l11, rfl, hm⟩
     rw [hK12] at hm
     have a13 := a6.n l11
     cases hm
     exact Cw.ret (ret1 rfl (Res.mk a13 rfl))
    ·refine Cw.region (Lw.r rfl (R.lda (cs := [vI x0.Kind, vS x0.Branch, vS x0.Who, vS x0.Path, vS x0.To, vI x0.At, v0_6_]) b7.cells rfl rfl) ?_)
     obtain ⟨z16, e17, hm⟩ := ob hm
     refine Lw.t rfl (T.call rfl (p38 (K := [0])  (Op.rd (K := [0]) x0.Kind x0.Branch x0.Who x0.Path x0.To x0.At x0.Text (h0_6.ul a6)) e17)) ?_
     rintro _ _ ⟨W18, rfl, l18, rfl⟩
     have a19 := a6.n l18
     refine Lw.m (vB z16) rfl (bsplit z16 (fun hc21 => ?_) (fun hc21 => ?_))
     ·replace hm := bt hm hc21
      refine Lw.want' hc21 rfl rfl rfl rfl (Lw.fa rfl (Lw.want' hc21 rfl rfl rfl rfl (Lw.r rfl (R.ld (v := vS x0.Path) rfl rfl ((b7.up l18 rfl).cell rfl)) (Lw.want' hc21 rfl rfl rfl rfl ?_))))
      obtain ⟨z22, e23, hm⟩ := ob hm
      refine Lw.t rfl (T.call rfl (p17 (K := [0])   e23)) ?_
      rintro _ _ ⟨W24, rfl, l24, rfl⟩
      have a25 := a19.n l24
      refine Lw.p hc21 (vB z22) rfl (Lw.m (vB z22) rfl (bsplit z22 (fun hc27 => ?_) (fun hc27 => ?_)))
      ·replace hm := bt hm hc27
       refine Lw.want' hc27 rfl rfl rfl rfl (Lw.fa rfl (Lw.want' hc27 rfl rfl rfl rfl (Lw.r rfl (R.ld (v := v0_6_) rfl rfl (((b7.up l18 rfl).up l24 rfl).cell rfl)) (Lw.want' hc27 rfl rfl rfl rfl ?_))))
       obtain ⟨z29, e30, hm⟩ := ob hm
       refine Lw.t rfl (T.call rfl (p39 (K := [0])  (h0_6.ul a25) e30)) ?_
       rintro _ _ ⟨W31, rfl, l31, rfl⟩
       refine Lw.p hc27 (vB z29) rfl (Lw.g (vB z29) rfl (Lw.nil (⟨?_, ⟨z29, W31, rfl, (l18.trans (l24.trans l31)), rfl, hm⟩⟩)))
       iterate 13 (refine Agree.up rfl ?_)
       exact Agree.refl _
      ·replace hm := bf hm hc27
       refine Lw.pass' hc27 rfl rfl rfl rfl rfl rfl rfl (Lw.pass' hc27 rfl rfl rfl rfl rfl rfl rfl (Lw.pass' hc27 rfl rfl rfl rfl rfl rfl rfl (Lw.p hc27 (vB false) rfl (Lw.g (vB false) rfl (Lw.nil (⟨?_, ⟨false, W24, rfl, (l18.trans l24), rfl, hm⟩⟩))))))
       iterate 13 (refine Agree.up rfl ?_)
       exact Agree.refl _
     ·replace hm := bf hm hc21
      refine Lw.pass' hc21 rfl rfl rfl rfl rfl rfl rfl (Lw.pass' hc21 rfl rfl rfl rfl rfl rfl rfl (Lw.pass' hc21 rfl rfl rfl rfl rfl rfl rfl (Lw.p hc21 (vB false) rfl (Lw.m (vB false) rfl (Lw.pass' rfl rfl rfl rfl rfl rfl rfl rfl (Lw.pass' rfl rfl rfl rfl rfl rfl rfl rfl (Lw.pass' rfl rfl rfl rfl rfl rfl rfl rfl (Lw.p rfl (vB false) rfl (Lw.g (vB false) rfl (Lw.nil (⟨?_, ⟨false, W18, rfl, l18, rfl, hm⟩⟩)))))))))))
      iterate 13 (refine Agree.up rfl ?_)
      exact Agree.refl _
   ·replace hm := bf hm hc9
    refine Cw.seq (Cw.region (Lw.eq rfl (Lw.g (vB ((x0.Kind : Int) == (2 : Int))) rfl (Lw.nil (Cw.cond (b := ((x0.Kind : Int) == (2 : Int))) rfl (fun hc34 => ?_) (fun hc34 => ?_))))))
    ·replace hm := bt hm hc34
     obtain ⟨K37, hK37, hm⟩ := jn_e hm
     refine Cw.join 31 37 [2] (fun l w => ∃ (y35 : Bool) (W36 : CW), W36.w = w ∧ Le [] W4 W36 ∧ l = [vB y35] ∧ K37 y35 = some r) ?_ ?_
     ·rintro _ _ σ ⟨y35, W36, rfl, l36, rfl, hm⟩
      rw [hK37] at hm
      have a38 := a6.n l36
      cases hm
      exact Cw.ret (ret1 rfl (Res.mk a38 rfl))
     ·refine Cw.region (Lw.r rfl (R.lda (cs := [vI x0.Kind, vS x0.Branch, vS x0.Who, vS x0.Path, vS x0.To, vI x0.At, v0_6_]) b7.cells rfl rfl) ?_)
      obtain ⟨z41, e42, hm⟩ := ob hm
      refine Lw.t rfl (T.call rfl (p38 (K := [0])  (Op.rd (K := [0]) x0.Kind x0.Branch x0.Who x0.Path x0.To x0.At x0.Text (h0_6.ul a6)) e42)) ?_
      rintro _ _ ⟨W43, rfl, l43, rfl⟩
      refine Lw.m (vB z41) rfl (bsplit z41 (fun hc46 => ?_) (fun hc46 => ?_))
      ·replace hm := bt hm hc46
       refine Lw.want' hc46 rfl rfl rfl rfl (Lw.fa rfl (Lw.want' hc46 rfl rfl rfl rfl (Lw.r rfl (R.ld (v := vS x0.Path) rfl rfl ((b7.up l43 rfl).cell rfl)) (Lw.want' hc46 rfl rfl rfl rfl ?_))))
       obtain ⟨z47, e48, hm⟩ := ob hm
       refine Lw.t rfl (T.call rfl (p17 (K := [0])   e48)) ?_
       rintro _ _ ⟨W49, rfl, l49, rfl⟩
       refine Lw.p hc46 (vB z47) rfl (Lw.g (vB z47) rfl (Lw.nil (⟨?_, ⟨z47, W49, rfl, (l43.trans l49), rfl, hm⟩⟩)))
       iterate 8 (refine Agree.up rfl ?_)
       exact Agree.refl _
      ·replace hm := bf hm hc46
       refine Lw.pass' hc46 rfl rfl rfl rfl rfl rfl rfl (Lw.pass' hc46 rfl rfl rfl rfl rfl rfl rfl (Lw.pass' hc46 rfl rfl rfl rfl rfl rfl rfl (Lw.p hc46 (vB false) rfl (Lw.g (vB false) rfl (Lw.nil (⟨?_, ⟨false, W43, rfl, l43, rfl, hm⟩⟩))))))
       iterate 8 (refine Agree.up rfl ?_)
       exact Agree.refl _
    ·replace hm := bf hm hc34
     refine Cw.seq (Cw.region (Lw.eq rfl (Lw.g (vB ((x0.Kind : Int) == (3 : Int))) rfl (Lw.nil (Cw.cond (b := ((x0.Kind : Int) == (3 : Int))) rfl (fun hc52 => ?_) (fun hc52 => ?_))))))
     ·replace hm := bt hm hc52
      obtain ⟨K55, hK55, hm⟩ := jn_e hm
      refine Cw.join 40 51 [2] (fun l w => ∃ (y53 : Bool) (W54 : CW), W54.w = w ∧ Le [] W4 W54 ∧ l = [vB y53] ∧ K55 y53 = some r) ?_ ?_
      ·rintro _ _ σ ⟨y53, W54, rfl, l54, rfl, hm⟩
       rw [hK55] at hm
       have a56 := a6.n l54
       cases hm
       exact Cw.ret (ret1 rfl (Res.mk a56 rfl))
      ·refine Cw.region (Lw.r rfl (R.lda (cs := [vI x0.Kind, vS x0.Branch, vS x0.Who, vS x0.Path, vS x0.To, vI x0.At, v0_6_]) b7.cells rfl rfl) ?_)
       obtain ⟨z59, e60, hm⟩ := ob hm
       refine Lw.t rfl (T.call rfl (p38 (K := [0])  (Op.rd (K := [0]) x0.Kind x0.Branch x0.Who x0.Path x0.To x0.At x0.Text (h0_6.ul a6)) e60)) ?_
       rintro _ _ ⟨W61, rfl, l61, rfl⟩
       refine Lw.m (vB z59) rfl (bsplit z59 (fun hc64 => ?_) (fun hc64 => ?_))
       ·replace hm := bt hm hc64
        refine Lw.want' hc64 rfl rfl rfl rfl (Lw.fa rfl (Lw.want' hc64 rfl rfl rfl rfl (Lw.r rfl (R.ld (v := vS x0.Path) rfl rfl ((b7.up l61 rfl).cell rfl)) (Lw.want' hc64 rfl rfl rfl rfl ?_))))
        obtain ⟨z65, e66, hm⟩ := ob hm
        refine Lw.t rfl (T.call rfl (p17 (K := [0])   e66)) ?_
        rintro _ _ ⟨W67, rfl, l67, rfl⟩
        refine Lw.p hc64 (vB z65) rfl (Lw.m (vB z65) rfl (bsplit z65 (fun hc70 => ?_) (fun hc70 => ?_)))
        ·replace hm := bt hm hc70
         refine Lw.want' hc70 rfl rfl rfl rfl (Lw.fa rfl (Lw.want' hc70 rfl rfl rfl rfl (Lw.r rfl (R.ld (v := vS x0.To) rfl rfl (((b7.up l61 rfl).up l67 rfl).cell rfl)) (Lw.want' hc70 rfl rfl rfl rfl ?_))))
         obtain ⟨z71, e72, hm⟩ := ob hm
         refine Lw.t rfl (T.call rfl (p17 (K := [0])   e72)) ?_
         rintro _ _ ⟨W73, rfl, l73, rfl⟩
         refine Lw.p hc70 (vB z71) rfl (Lw.g (vB z71) rfl (Lw.nil (⟨?_, ⟨z71, W73, rfl, (l61.trans (l67.trans l73)), rfl, hm⟩⟩)))
         iterate 13 (refine Agree.up rfl ?_)
         exact Agree.refl _
        ·replace hm := bf hm hc70
         refine Lw.pass' hc70 rfl rfl rfl rfl rfl rfl rfl (Lw.pass' hc70 rfl rfl rfl rfl rfl rfl rfl (Lw.pass' hc70 rfl rfl rfl rfl rfl rfl rfl (Lw.p hc70 (vB false) rfl (Lw.g (vB false) rfl (Lw.nil (⟨?_, ⟨false, W67, rfl, (l61.trans l67), rfl, hm⟩⟩))))))
         iterate 13 (refine Agree.up rfl ?_)
         exact Agree.refl _
       ·replace hm := bf hm hc64
        refine Lw.pass' hc64 rfl rfl rfl rfl rfl rfl rfl (Lw.pass' hc64 rfl rfl rfl rfl rfl rfl rfl (Lw.pass' hc64 rfl rfl rfl rfl rfl rfl rfl (Lw.p hc64 (vB false) rfl (Lw.m (vB false) rfl (Lw.pass' rfl rfl rfl rfl rfl rfl rfl rfl (Lw.pass' rfl rfl rfl rfl rfl rfl rfl rfl (Lw.pass' rfl rfl rfl rfl rfl rfl rfl rfl (Lw.p rfl (vB false) rfl (Lw.g (vB false) rfl (Lw.nil (⟨?_, ⟨false, W61, rfl, l61, rfl, hm⟩⟩)))))))))))
        iterate 13 (refine Agree.up rfl ?_)
        exact Agree.refl _
     ·replace hm := bf hm hc52
      obtain ⟨K78, hK78, hm⟩ := jn_e hm
      refine Cw.join 52 54 [52] (fun l w => ∃ (y76 : Bool) (W77 : CW), W77.w = w ∧ Le [] W4 W77 ∧ l = [vB y76] ∧ K78 y76 = some r) ?_ ?_
      ·rintro _ _ σ ⟨y76, W77, rfl, l77, rfl, hm⟩
       rw [hK78] at hm
       have a79 := a6.n l77
       have b80 := b7.up l77 rfl
       refine Cw.cond (b := y76) rfl (fun hc81 => ?_) (fun hc81 => ?_)
       ·replace hm := bt hm hc81
        obtain ⟨K84, hK84, hm⟩ := jn_e hm
        refine Cw.join 55 61 [2] (fun l w => ∃ (y82 : Bool) (W83 : CW), W83.w = w ∧ Le [] W77 W83 ∧ l = [vB y82] ∧ K84 y82 = some r) ?_ ?_
        ·rintro _ _ σ ⟨y82, W83, rfl, l83, rfl, hm⟩
         rw [hK84] at hm
         have a85 := a79.n l83
         cases hm
         exact Cw.ret (ret1 rfl (Res.mk a85 rfl))
        ·refine Cw.region (Lw.r rfl (R.lda (cs := [vI x0.Kind, vS x0.Branch, vS x0.Who, vS x0.Path, vS x0.To, vI x0.At, v0_6_]) b80.cells rfl rfl) ?_)
         obtain ⟨z88, e89, hm⟩ := ob hm
         refine Lw.t rfl (T.call rfl (p38 (K := [0])  (Op.rd (K := [0]) x0.Kind x0.Branch x0.Who x0.Path x0.To x0.At x0.Text (h0_6.ul a79)) e89)) ?_
         rintro _ _ ⟨W90, rfl, l90, rfl⟩
         refine Lw.m (vB z88) rfl (bsplit z88 (fun hc93 => ?_) (fun hc93 => ?_))
         ·replace hm := bt hm hc93
          refine Lw.want' hc93 rfl rfl rfl rfl (Lw.fa rfl (Lw.want' hc93 rfl rfl rfl rfl (Lw.r rfl (R.ld (v := vS x0.To) rfl rfl ((b80.up l90 rfl).cell rfl)) (Lw.want' hc93 rfl rfl rfl rfl ?_))))
          obtain ⟨z94, e95, hm⟩ := ob hm
          refine Lw.t rfl (T.call rfl (p33 (K := [0])   e95)) ?_
          rintro _ _ ⟨W96, rfl, l96, rfl⟩
          refine Lw.p hc93 (vB z94) rfl (Lw.g (vB z94) rfl (Lw.nil (⟨?_, ⟨z94, W96, rfl, (l90.trans l96), rfl, hm⟩⟩)))
          iterate 8 (refine Agree.up rfl ?_)
          exact Agree.refl _
         ·replace hm := bf hm hc93
          refine Lw.pass' hc93 rfl rfl rfl rfl rfl rfl rfl (Lw.pass' hc93 rfl rfl rfl rfl rfl rfl rfl (Lw.pass' hc93 rfl rfl rfl rfl rfl rfl rfl (Lw.p hc93 (vB false) rfl (Lw.g (vB false) rfl (Lw.nil (⟨?_, ⟨false, W90, rfl, l90, rfl, hm⟩⟩))))))
          iterate 8 (refine Agree.up rfl ?_)
          exact Agree.refl _
       ·replace hm := bf hm hc81
        obtain ⟨K101, hK101, hm⟩ := jn_e hm
        refine Cw.join 62 64 [62] (fun l w => ∃ (y99 : Bool) (W100 : CW), W100.w = w ∧ Le [] W77 W100 ∧ l = [vB y99] ∧ K101 y99 = some r) ?_ ?_
        ·rintro _ _ σ ⟨y99, W100, rfl, l100, rfl, hm⟩
         rw [hK101] at hm
         have a102 := a79.n l100
         refine Cw.cond (b := y99) rfl (fun hc104 => ?_) (fun hc104 => ?_)
         ·replace hm := bt hm hc104
          obtain ⟨K107, hK107, hm⟩ := jn_e hm
          refine Cw.join 65 71 [2] (fun l w => ∃ (y105 : Bool) (W106 : CW), W106.w = w ∧ Le [] W100 W106 ∧ l = [vB y105] ∧ K107 y105 = some r) ?_ ?_
          ·rintro _ _ σ ⟨y105, W106, rfl, l106, rfl, hm⟩
           rw [hK107] at hm
           have a108 := a102.n l106
           cases hm
           exact Cw.ret (ret1 rfl (Res.mk a108 rfl))
          ·refine Cw.region (Lw.r rfl (R.lda (cs := [vI x0.Kind, vS x0.Branch, vS x0.Who, vS x0.Path, vS x0.To, vI x0.At, v0_6_]) (b80.up l100 rfl).cells rfl rfl) ?_)
           obtain ⟨z111, e112, hm⟩ := ob hm
           refine Lw.t rfl (T.call rfl (p38 (K := [0])  (Op.rd (K := [0]) x0.Kind x0.Branch x0.Who x0.Path x0.To x0.At x0.Text (h0_6.ul a102)) e112)) ?_
           rintro _ _ ⟨W113, rfl, l113, rfl⟩
           refine Lw.m (vB z111) rfl (bsplit z111 (fun hc116 => ?_) (fun hc116 => ?_))
           ·replace hm := bt hm hc116
            refine Lw.want' hc116 rfl rfl rfl rfl (Lw.fa rfl (Lw.want' hc116 rfl rfl rfl rfl (Lw.r rfl (R.ld (v := vI x0.At) rfl rfl (((b80.up l100 rfl).up l113 rfl).cell rfl)) (Lw.want' hc116 rfl rfl rfl rfl ?_))))
            obtain ⟨z117, e118, hm⟩ := ob hm
            refine Lw.t rfl (T.call rfl (p40 (K := [0])   e118)) ?_
            rintro _ _ ⟨W119, rfl, l119, rfl⟩
            refine Lw.p hc116 (vB z117) rfl (Lw.g (vB z117) rfl (Lw.nil (⟨?_, ⟨z117, W119, rfl, (l113.trans l119), rfl, hm⟩⟩)))
            iterate 8 (refine Agree.up rfl ?_)
            exact Agree.refl _
           ·replace hm := bf hm hc116
            refine Lw.pass' hc116 rfl rfl rfl rfl rfl rfl rfl (Lw.pass' hc116 rfl rfl rfl rfl rfl rfl rfl (Lw.pass' hc116 rfl rfl rfl rfl rfl rfl rfl (Lw.p hc116 (vB false) rfl (Lw.g (vB false) rfl (Lw.nil (⟨?_, ⟨false, W113, rfl, l113, rfl, hm⟩⟩))))))
            iterate 8 (refine Agree.up rfl ?_)
            exact Agree.refl _
         ·replace hm := bf hm hc104
          refine Cw.skip (Cw.seq (Cw.region (Lw.g (vB false) rfl (Lw.nil ?_))))
          cases hm
          exact Cw.ret (ret1 rfl (Res.mk a102 rfl))
        ·refine Cw.seq (Cw.region (Lw.eq rfl (Lw.g (vB ((x0.Kind : Int) == (6 : Int))) rfl (Lw.nil (Cw.cond (b := ((x0.Kind : Int) == (6 : Int))) rfl (fun hc122 => ?_) (fun hc122 => ?_))))))
         ·replace hm := bt hm hc122
          refine Cw.skip (⟨?_, ⟨((x0.Kind : Int) == (6 : Int)), W77, rfl, Le.refl _ _, rfl, hm⟩⟩)
          iterate 2 (refine Agree.up rfl ?_)
          exact Agree.refl _
         ·replace hm := bf hm hc122
          refine Cw.region (Lw.eq rfl (Lw.g (vB ((x0.Kind : Int) == (7 : Int))) rfl (Lw.nil (⟨?_, ⟨((x0.Kind : Int) == (7 : Int)), W77, rfl, Le.refl _ _, rfl, hm⟩⟩))))
          iterate 4 (refine Agree.up rfl ?_)
          exact Agree.refl _
      ·refine Cw.seq (Cw.region (Lw.eq rfl (Lw.g (vB ((x0.Kind : Int) == (4 : Int))) rfl (Lw.nil (Cw.cond (b := ((x0.Kind : Int) == (4 : Int))) rfl (fun hc123 => ?_) (fun hc123 => ?_))))))
       ·replace hm := bt hm hc123
        refine Cw.skip (⟨?_, ⟨((x0.Kind : Int) == (4 : Int)), W4, rfl, Le.refl _ _, rfl, hm⟩⟩)
        iterate 2 (refine Agree.up rfl ?_)
        exact Agree.refl _
       ·replace hm := bf hm hc123
        refine Cw.region (Lw.eq rfl (Lw.g (vB ((x0.Kind : Int) == (5 : Int))) rfl (Lw.nil (⟨?_, ⟨((x0.Kind : Int) == (5 : Int)), W4, rfl, Le.refl _ _, rfl, hm⟩⟩))))
        iterate 4 (refine Agree.up rfl ?_)
        exact Agree.refl _
 ·refine Cw.region (Lw.fa rfl (Lw.r rfl (R.ld (v := vS x0.Branch) rfl rfl (b1.cell rfl)) ?_))
  obtain ⟨z124, e125, hm⟩ := ob hm
  refine Lw.t rfl (T.call rfl (p33 (K := [0])   e125)) ?_
  rintro _ _ ⟨W126, rfl, l126, rfl⟩
  refine Lw.r rfl (R.not rfl) (Lw.m (vB (!z124)) rfl (bsplit (!z124) (fun hc129 => ?_) (fun hc129 => ?_)))
  ·replace hm := bt hm hc129
   refine Lw.pass' hc129 rfl rfl rfl rfl rfl rfl rfl (Lw.pass' hc129 rfl rfl rfl rfl rfl rfl rfl (Lw.pass' hc129 rfl rfl rfl rfl rfl rfl rfl (Lw.pass' hc129 rfl rfl rfl rfl rfl rfl rfl (Lw.p hc129 (vB true) rfl (Lw.nil (⟨?_, ⟨true, W126, rfl, l126, rfl, hm⟩⟩))))))
   iterate 10 (refine Agree.up rfl ?_)
   exact Agree.refl _
  ·replace hm := bf hm hc129
   refine Lw.want' hc129 rfl rfl rfl rfl (Lw.fa rfl (Lw.want' hc129 rfl rfl rfl rfl (Lw.r rfl (R.ld (v := vS x0.Who) rfl rfl ((b1.up l126 rfl).cell rfl)) (Lw.want' hc129 rfl rfl rfl rfl ?_))))
   obtain ⟨z130, e131, hm⟩ := ob hm
   refine Lw.t rfl (T.call rfl (p33 (K := [0])   e131)) ?_
   rintro _ _ ⟨W132, rfl, l132, rfl⟩
   refine Lw.want' hc129 rfl rfl rfl rfl (Lw.r rfl (R.not rfl) (Lw.p hc129 (vB (!z130)) rfl (Lw.nil (⟨?_, ⟨(!z130), W132, rfl, (l126.trans l132), rfl, hm⟩⟩))))
   iterate 10 (refine Agree.up rfl ?_)
   exact Agree.refl _

theorem p25 {W : CW} {K : List Nat} {x0 : Vm.Op} {v0_6_ : Value} {r : Bool} (h0 : Rd W K [vI x0.Kind, vS x0.Branch, vS x0.Who, vS x0.Path, vS x0.To, vI x0.At, v0_6_] x0) (hm : Vm.spec_l19Ok x0 = some r) : CallR Tryd.prog 25 [.agg [vI x0.Kind, vS x0.Branch, vS x0.Who, vS x0.Path, vS x0.To, vI x0.At, v0_6_].toArray].toArray W.w (Res W [] fun W' v => v = vB r) :=
 (c25 (V := W.view K []) (h0.view _) hm).ad (fk 0) fun _ _ e => e

theorem c11 {V : CW} {x0 : Vm.Op} {v0_6_ : Value} {r : Bool} (h0 : Rd V [0] [vI x0.Kind, vS x0.Branch, vS x0.Who, vS x0.Path, vS x0.To, vI x0.At, v0_6_] x0) (hm : Vm.spec_OpOk x0 = some r) : CallR Tryd.prog 11 [.agg [vI x0.Kind, vS x0.Branch, vS x0.Who, vS x0.Path, vS x0.To, vI x0.At, v0_6_].toArray].toArray V.w (Res V LL fun Wf v => v = vB r) := by
 unfold Vm.spec_OpOk at hm
 obtain ⟨w0_0, he0, h0_6⟩ := Op.split h0
 simp only [List.cons.injEq, and_true, true_and] at he0
 obtain rfl := he0
 obtain ⟨W0, hW0⟩ : ∃ W, W = V := ⟨V, rfl⟩
 subst hW0
 refine CallR.of Tryd.func11 rfl rfl rfl rfl (Cw.seq (Cw.region (Lw.t rfl (T.box 2 (v := .agg [vI x0.Kind, vS x0.Branch, vS x0.Who, vS x0.Path, vS x0.To, vI x0.At, v0_6_].toArray) (cs := [vI x0.Kind, vS x0.Branch, vS x0.Who, vS x0.Path, vS x0.To, vI x0.At, v0_6_]) rfl rfl) ?_)))
 rintro _ _ ⟨g1, W1, rfl, rfl, l1, b1⟩
 have a2 := l1.o
 refine Lw.g (vB false) rfl (Lw.nil (Cw.seq (Cw.region (Lw.r rfl (R.lda (cs := [vI x0.Kind, vS x0.Branch, vS x0.Who, vS x0.Path, vS x0.To, vI x0.At, v0_6_]) b1.cells rfl rfl) ?_))))
 obtain ⟨z4, e5, hm⟩ := ob hm
 refine Lw.t rfl (T.call rfl (p25 (K := [0])  (Op.rd (K := [0]) x0.Kind x0.Branch x0.Who x0.Path x0.To x0.At x0.Text (h0_6.ul a2)) e5)) ?_
 rintro _ _ ⟨W6, rfl, l6, rfl⟩
 have a7 := a2.n l6
 refine Lw.g (vB z4) rfl (Lw.nil ?_)
 cases hm
 exact Cw.ret (ret1 rfl (Res.mk a7 rfl))

theorem p11 {W : CW} {K : List Nat} {x0 : Vm.Op} {v0_6_ : Value} {r : Bool} (h0 : Rd W K [vI x0.Kind, vS x0.Branch, vS x0.Who, vS x0.Path, vS x0.To, vI x0.At, v0_6_] x0) (hm : Vm.spec_OpOk x0 = some r) : CallR Tryd.prog 11 [.agg [vI x0.Kind, vS x0.Branch, vS x0.Who, vS x0.Path, vS x0.To, vI x0.At, v0_6_].toArray].toArray W.w (Res W [] fun W' v => v = vB r) :=
 (c11 (V := W.view K []) (h0.view _) hm).ad (fk 0) fun _ _ e => e

theorem c42 {V : CW} {x0 : Str} {r : Bool}  (hm : Vm.impl_lineOk x0 = some r) : CallR Tryd.prog 42 [vS x0].toArray V.w (Res V LL fun Wf v => v = vB r) := by
 unfold Vm.impl_lineOk at hm
 obtain ⟨W0, hW0⟩ : ∃ W, W = V := ⟨V, rfl⟩
 subst hW0
 refine CallR.of Tryd.func42 rfl rfl rfl rfl (Cw.seq (Cw.region (Lw.g (vB false) rfl (Lw.nil (Cw.seq (Cw.seq (Cw.region (Lw.m (vS x0) rfl (Lw.r rfl (R.lenS rfl) (Lw.gt rfl (Lw.nil (Cw.cond (b := decide ((12 : Int) < ((x0.length : Int) : Int))) rfl (fun hc1 => ?_) (fun hc1 => ?_)))))))))))))
 ·replace hm := bt hm hc1
  refine Cw.seq (Cw.region (Lw.g (vB false) rfl (Lw.nil ?_)))
  cases hm
  exact Cw.ret (ret1 rfl (Res.mk (Le.refl _ _) rfl))
 ·replace hm := bf hm hc1
  refine Cw.skip (Cw.seq (Cw.seq (Cw.region (Lw.g (vI 0) rfl (Lw.nil (Cw.block ?_))))))
  obtain ⟨K5, hK5, hm⟩ := jn_e hm
  refine Cw.loop 7 22 [2, 3] (fun m l w => ∃ (y2 : Bool) (y3 : Int) (W4 : CW), W4.w = w ∧ Le [] W0 W4 ∧ l = [vB y2, vI y3] ∧ Vm.impl_lineOk_l1 x0 K5 m y2 y3 = some r) (((x0.length : Int) - 0).toNat + 1) ⟨false, 0, W0, rfl, Le.refl _ _, rfl, hm⟩ ?_
  rintro m6 _ _ σ ⟨y2, y3, W4, rfl, l4, rfl, hm⟩
  obtain _ | m6 := m6
  ·cases hm
  unfold Vm.impl_lineOk_l1 at hm
  have a7 := l4.o
  refine Cw.seq (Cw.seq (Cw.region (Lw.m (vI y3) rfl (Lw.m (vS x0) rfl (Lw.r rfl (R.lenS rfl) (Lw.lt rfl (Lw.nil (Cw.cond (b := decide ((y3 : Int) < ((x0.length : Int) : Int))) rfl (fun hc8 => ?_) (fun hc8 => ?_)))))))))
  ·replace hm := bt hm hc8
   refine Cw.skip (Cw.seq (Cw.block ?_))
   obtain ⟨K11, hK11, hm⟩ := jn_e hm
   refine Cw.join 13 22 [22] (fun l w => ∃ (y9 : Bool) (W10 : CW), W10.w = w ∧ Le [] W4 W10 ∧ l = [vB y9] ∧ K11 y9 = some r) ?_ ?_
   ·rintro _ _ σ ⟨y9, W10, rfl, l10, rfl, hm⟩
    rw [hK11] at hm
    have a12 := a7.n l10
    refine Cw.cond (b := y9) rfl (fun hc13 => ?_) (fun hc13 => ?_)
    ·replace hm := bt hm hc13
     refine Cw.seq (Cw.region (Lw.g (vB false) rfl (Lw.nil ?_)))
     cases hm
     exact Cw.ret (ret1 rfl (Res.mk a12 rfl))
    ·replace hm := bf hm hc13
     refine Cw.skip (Cw.region (Lw.m (vI y3) rfl (Lw.add rfl (Lw.g (vI (w64 (y3 + 1))) rfl (Lw.nil (⟨?_, m6, Nat.lt_succ_self m6, ⟨y2, w64 (y3 + 1), W10, rfl, (l4.trans l10), rfl, hm⟩⟩))))))
     iterate 3 (refine Agree.up rfl ?_)
     iterate 1 (refine Agree.up rfl ?_)
     refine Agree.ov0 rfl ?_
     iterate 4 (refine Agree.up rfl ?_)
     iterate 2 (refine Agree.up rfl ?_)
     exact Agree.base
   ·refine Cw.region (Lw.m (vS x0) rfl (Lw.m (vI y3) rfl ?_))
    obtain ⟨u14, e15, hm⟩ := ob hm
    refine Lw.r rfl (R.chm e15 rfl rfl) (Lw.lt rfl (Lw.m (vB (decide (((UInt8.toNat u14 : Int) : Int) < (32 : Int)))) rfl (bsplit (decide (((UInt8.toNat u14 : Int) : Int) < (32 : Int))) (fun hc16 => ?_) (fun hc16 => ?_))))
    ·replace hm := bt hm hc16
     refine Lw.pass' hc16 rfl rfl rfl rfl rfl rfl rfl (Lw.pass' hc16 rfl rfl rfl rfl rfl rfl rfl (Lw.pass' hc16 rfl rfl rfl rfl rfl rfl rfl (Lw.pass' hc16 rfl rfl rfl rfl rfl rfl rfl (Lw.p hc16 (vB true) rfl (Lw.nil (⟨?_, ⟨true, W4, rfl, Le.refl _ _, rfl, hm⟩⟩))))))
     iterate 10 (refine Agree.up rfl ?_)
     exact Agree.refl _
    ·replace hm := bf hm hc16
     refine Lw.want' hc16 rfl rfl rfl rfl (Lw.m (vS x0) rfl (Lw.want' hc16 rfl rfl rfl rfl (Lw.m (vI y3) rfl (Lw.want' hc16 rfl rfl rfl rfl ?_))))
     obtain ⟨u17, e18, hm⟩ := ob hm
     refine Lw.r rfl (R.chm e18 rfl rfl) (Lw.want' hc16 rfl rfl rfl rfl (Lw.gt rfl (Lw.p hc16 (vB (decide ((126 : Int) < ((UInt8.toNat u17 : Int) : Int)))) rfl (Lw.nil (⟨?_, ⟨decide ((126 : Int) < ((UInt8.toNat u17 : Int) : Int)), W4, rfl, Le.refl _ _, rfl, hm⟩⟩)))))
     iterate 10 (refine Agree.up rfl ?_)
     exact Agree.refl _
  ·replace hm := bf hm hc8
   refine Cw.exit ?_
   rw [hK5] at hm
   refine Cw.seq (Cw.region (Lw.g (vB true) rfl (Lw.nil ?_)))
   cases hm
   exact Cw.ret (ret1 rfl (Res.mk a7 rfl))

theorem p42 {W : CW} {K : List Nat} {x0 : Str} {r : Bool}  (hm : Vm.impl_lineOk x0 = some r) : CallR Tryd.prog 42 [vS x0].toArray W.w (Res W [] fun W' v => v = vB r) :=
 (c42 (V := W.view K [])  hm).ad (fk 0) fun _ _ e => e

theorem c28 {V : CW} {x0 : List Str} {v0_ : Value} {r : Bool} (h0 : Rd V [0] [v0_] x0) (hm : Vm.impl_TextOk x0 = some r) : CallR Tryd.prog 28 [v0_].toArray V.w (Res V LL fun Wf v => v = vB r) := by
 unfold Vm.impl_TextOk at hm
 obtain ⟨W0, hW0⟩ : ∃ W, W = V := ⟨V, rfl⟩
 subst hW0
 refine CallR.of Tryd.func28 rfl rfl rfl rfl (Cw.seq (Cw.region (Lw.g (vB false) rfl (Lw.nil (Cw.seq (Cw.seq (Cw.region (Lw.m v0_ rfl (Lw.ln x0 h0 rfl (Lw.gt rfl (Lw.nil (Cw.cond (b := decide ((10 : Int) < ((x0.length : Int) : Int))) rfl (fun hc1 => ?_) (fun hc1 => ?_)))))))))))))
 ·replace hm := bt hm hc1
  refine Cw.seq (Cw.region (Lw.g (vB false) rfl (Lw.nil ?_)))
  cases hm
  exact Cw.ret (ret1 rfl (Res.mk (Le.refl _ _) rfl))
 ·replace hm := bf hm hc1
  refine Cw.skip (Cw.seq (Cw.seq (Cw.region (Lw.m v0_ rfl (Lw.ln x0 h0 rfl (Lw.m (vI 0) rfl (Lw.nil (Cw.block ?_))))))))
  obtain ⟨K6, hK6, hm⟩ := jn_e hm
  refine Cw.loop 10 17 [2, 4, 10] (fun m l w => ∃ (y2 : Bool) (y4 : Int) (j3 : Value) (W5 : CW), W5.w = w ∧ Le [] W0 W5 ∧ l = [vB y2, j3, vI y4] ∧ Vm.impl_TextOk_l1 x0 K6 m y2 y4 = some r) (((x0.length : Int) - 0).toNat + 1) ⟨false, 0, undef, W0, rfl, Le.refl _ _, rfl, hm⟩ ?_
  rintro m7 _ _ σ ⟨y2, y4, j3, W5, rfl, l5, rfl, hm⟩
  obtain _ | m7 := m7
  ·cases hm
  unfold Vm.impl_TextOk_l1 at hm
  have a8 := l5.o
  refine Cw.seq (Cw.region (Lw.lt rfl (Lw.nil (Cw.seq (Cw.cond (b := decide ((y4 : Int) < ((x0.length : Int) : Int))) rfl (fun hc9 => ?_) (fun hc9 => ?_))))))
  ·replace hm := bt hm hc9
   refine Cw.skip (Cw.seq (Cw.block (Cw.seq (Cw.region ?_))))
   obtain ⟨u10, e11, hm⟩ := ob hm
   refine Lw.r rfl (R.ix (α := Str) (h0.ul a8) e11 rfl rfl rfl) (Lw.r rfl (R.ld rfl rfl ((h0.ul a8).at_ e11).str) (Lw.g (vS u10) rfl (Lw.nil (Cw.seq (Cw.region (Lw.m (vS u10) rfl ?_))))))
   obtain ⟨z13, e14, hm⟩ := ob hm
   refine Lw.t rfl (T.call rfl (p42 (K := [0])   e14)) ?_
   rintro _ _ ⟨W15, rfl, l15, rfl⟩
   have a16 := a8.n l15
   refine Lw.r rfl (R.not rfl) (Lw.nil (Cw.cond (b := (!z13)) rfl (fun hc17 => ?_) (fun hc17 => ?_)))
   ·replace hm := bt hm hc17
    refine Cw.seq (Cw.region (Lw.g (vB false) rfl (Lw.nil ?_)))
    cases hm
    exact Cw.ret (ret1 rfl (Res.mk a16 rfl))
   ·replace hm := bf hm hc17
    refine Cw.skip (Cw.region (Lw.add rfl (Lw.m (vI (w64 (y4 + 1))) rfl (Lw.nil (⟨?_, m7, Nat.lt_succ_self m7, ⟨y2, w64 (y4 + 1), vS u10, W15, rfl, (l5.trans l15), rfl, hm⟩⟩)))))
    iterate 9 (refine Agree.up rfl ?_)
    iterate 3 (refine Agree.up rfl ?_)
    exact Agree.base
  ·replace hm := bf hm hc9
   refine Cw.exit ?_
   rw [hK6] at hm
   refine Cw.seq (Cw.region (Lw.g (vB true) rfl (Lw.nil ?_)))
   cases hm
   exact Cw.ret (ret1 rfl (Res.mk a8 rfl))

theorem p28 {W : CW} {K : List Nat} {x0 : List Str} {v0_ : Value} {r : Bool} (h0 : Rd W K [v0_] x0) (hm : Vm.impl_TextOk x0 = some r) : CallR Tryd.prog 28 [v0_].toArray W.w (Res W [] fun W' v => v = vB r) :=
 (c28 (V := W.view K []) (h0.view _) hm).ad (fk 0) fun _ _ e => e

theorem c13 {V : CW} {x0 : Vm.Op} {v0_6_ : Value} {r : Bool} (h0 : Rd V [0] [vI x0.Kind, vS x0.Branch, vS x0.Who, vS x0.Path, vS x0.To, vI x0.At, v0_6_] x0) (h99 : Gl 0 V [0]) (hm : Vm.impl_OpOk x0 = some r) : CallR Tryd.prog 13 [.agg [vI x0.Kind, vS x0.Branch, vS x0.Who, vS x0.Path, vS x0.To, vI x0.At, v0_6_].toArray].toArray V.w (Res V LL fun Wf v => v = vB r) := by
 unfold Vm.impl_OpOk at hm
 obtain ⟨w0_0, he0, h0_6⟩ := Op.split h0
 simp only [List.cons.injEq, and_true, true_and] at he0
 obtain rfl := he0
 obtain ⟨W0, hW0⟩ : ∃ W, W = V := ⟨V, rfl⟩
 subst hW0
 refine CallR.of Tryd.func13 rfl rfl rfl rfl (Cw.seq (Cw.region (Lw.t rfl (T.box 2 (v := .agg [vI x0.Kind, vS x0.Branch, vS x0.Who, vS x0.Path, vS x0.To, vI x0.At, v0_6_].toArray) (cs := [vI x0.Kind, vS x0.Branch, vS x0.Who, vS x0.Path, vS x0.To, vI x0.At, v0_6_]) rfl rfl) ?_)))
 rintro _ _ ⟨g1, W1, rfl, rfl, l1, b1⟩
 have a2 := l1.o
 refine Lw.g (vB false) rfl (Lw.nil (Cw.seq ?_))
 obtain ⟨K5, hK5, hm⟩ := jn_e hm
 refine Cw.join 7 16 [16] (fun l w => ∃ (y3 : Bool) (W4 : CW), W4.w = w ∧ Le [] W1 W4 ∧ l = [vB y3] ∧ K5 y3 = some r) ?_ ?_
 ·rintro _ _ σ ⟨y3, W4, rfl, l4, rfl, hm⟩
  rw [hK5] at hm
  have a6 := a2.n l4
  refine Cw.cond (b := y3) rfl (fun hc8 => ?_) (fun hc8 => ?_)
  ·replace hm := bt hm hc8
   refine Cw.seq (Cw.region (Lw.g (vB false) rfl (Lw.nil ?_)))
   cases hm
   exact Cw.ret (ret1 rfl (Res.mk a6 rfl))
  ·replace hm := bf hm hc8
   refine Cw.skip (Cw.seq (Cw.draw [] [(0, 0), (1, 1), (2, 0), (3, 0), (4, 1), (5, 0), (6, 0), (7, 1), (8, 0), (9, 0), (10, 1), (11, 0), (12, 0), (13, 0), (14, 0), (15, 0), (16, 0)] mixed (by kernel_rfl) fun W9 l9 => ?_))
   have a10 := a6.n l9
   have b11 := (b1.up l4 rfl).up l9 rfl
   refine Mw.p rfl rfl (fun _ => R.fa rfl) (Mw.q rfl rfl (fun _ c => R.ld (v := vS x0.Path) rfl rfl (b11.clc rfl rfl c)) (Mw.p rfl rfl (fun _ => R.seq rfl rfl) (Mw.p rfl rfl (fun _ => R.fa rfl) (Mw.q rfl rfl (fun _ c => R.ld (v := vS x0.To) rfl rfl (b11.clc rfl rfl c)) (Mw.p rfl rfl (fun _ => R.seq rfl rfl) (Mw.p rfl rfl (fun _ => R.fa rfl) (Mw.q rfl rfl (fun _ c => R.ld (v := vI x0.At) rfl rfl (b11.clc rfl rfl c)) (Mw.p rfl rfl (fun _ => R.eq rfl rfl) (Mw.p rfl rfl (fun _ => R.fa rfl) (Mw.q rfl rfl (fun _ c => R.ld (v := v0_6_) rfl rfl (b11.clc rfl rfl c)) (Mw.p rfl rfl (fun _ => lenR (xs := x0.Text) (h0_6.ul a10) rfl) (Mw.p rfl rfl (fun _ => R.eq rfl rfl) (Mw.p rfl rfl (fun _ => R.as (v := vB (x0.Path == ([] : Str))) rfl) (Mw.p rfl rfl (fun _ => R.as (v := vB (x0.To == ([] : Str))) rfl) (Mw.p rfl rfl (fun _ => R.as (v := vB ((x0.At : Int) == (0 : Int))) rfl) (Mw.p rfl rfl (fun _ => R.as (v := vB (((x0.Text.length : Int) : Int) == (0 : Int))) rfl) (Mw.nil (Cw.seq (Cw.seq (Cw.region (Lw.fa rfl (Lw.r rfl (R.ld (v := vI x0.Kind) rfl rfl (b11.cell rfl)) (Lw.nil (Cw.block (Cw.seq (Cw.region (Lw.eq rfl (Lw.g (vB ((x0.Kind : Int) == (1 : Int))) rfl (Lw.nil (Cw.cond (b := ((x0.Kind : Int) == (1 : Int))) rfl (fun hc13 => ?_) (fun hc13 => ?_)))))))))))))))))))))))))))))))
   ·replace hm := bt hm hc13
    obtain ⟨K16, hK16, hm⟩ := jn_e hm
    refine Cw.join 34 54 [2] (fun l w => ∃ (y14 : Bool) (W15 : CW), W15.w = w ∧ Le [] W9 W15 ∧ l = [vB y14] ∧ K16 y14 = some r) ?_ ?_
    ·rintro _ _ σ ⟨y14, W15, rfl, l15, rfl, hm⟩
     rw [hK16] at hm
     have a17 := a10.n l15
     cases hm
     exact Cw.ret (ret1 rfl (Res.mk a17 rfl))
    ·refine Cw.region (Lw.fa rfl (Lw.r rfl (R.ld (v := vS x0.Path) rfl rfl (b11.cell rfl)) ?_))
     obtain ⟨z20, e21, hm⟩ := ob hm
     refine Lw.t rfl (T.call rfl (p21 (K := [0])  (h99.ul a10) e21)) ?_
     rintro _ _ ⟨W22, rfl, l22, rfl⟩
     have a23 := a10.n l22
     refine Lw.m (vB z20) rfl (bsplit z20 (fun hc25 => ?_) (fun hc25 => ?_))
     ·replace hm := bt hm hc25
      refine Lw.want' hc25 rfl rfl rfl rfl (Lw.fa rfl (Lw.want' hc25 rfl rfl rfl rfl (Lw.r rfl (R.ld (v := v0_6_) rfl rfl ((b11.up l22 rfl).cell rfl)) (Lw.want' hc25 rfl rfl rfl rfl ?_))))
      obtain ⟨z27, e28, hm⟩ := ob hm
      refine Lw.t rfl (T.call rfl (p28 (K := [0])  (h0_6.ul a23) e28)) ?_
      rintro _ _ ⟨W29, rfl, l29, rfl⟩
      have a30 := a23.n l29
      refine Lw.p hc25 (vB z27) rfl (Lw.m (vB z27) rfl (bsplit z27 (fun hc32 => ?_) (fun hc32 => ?_)))
      ·replace hm := bt hm hc32
       refine Lw.want' hc32 rfl rfl rfl rfl (Lw.fa rfl (Lw.want' hc32 rfl rfl rfl rfl (Lw.r rfl (R.ld (v := v0_6_) rfl rfl (((b11.up l22 rfl).up l29 rfl).cell rfl)) (Lw.want' hc32 rfl rfl rfl rfl ?_))))
       obtain ⟨z34, e35, hm⟩ := ob hm
       refine Lw.t rfl (T.call rfl (p30 (K := [0])  (h0_6.ul a30) e35)) ?_
       rintro _ _ ⟨W36, rfl, l36, rfl⟩
       have a37 := a30.n l36
       refine Lw.want' hc32 rfl rfl rfl rfl ?_
       obtain ⟨z40, e41, hm⟩ := ob hm
       refine Lw.t rfl (T.call rfl (p29 (K := [0])  (h99.ul a37) e41)) ?_
       rintro _ _ ⟨W42, rfl, l42, rfl⟩
       refine Lw.want' hc32 rfl rfl rfl rfl (Lw.r rfl (R.not rfl) (Lw.p hc32 (vB (!z40)) rfl (Lw.m (vB (!z40)) rfl (bsplit (!z40) (fun hc45 => ?_) (fun hc45 => ?_)))))
       ·replace hm := bt hm hc45
        refine Lw.want' hc45 rfl rfl rfl rfl (Lw.m (vB (x0.To == ([] : Str))) rfl (Lw.p hc45 (vB (x0.To == ([] : Str))) rfl (Lw.m (vB (x0.To == ([] : Str))) rfl (bsplit (x0.To == ([] : Str)) (fun hc46 => ?_) (fun hc46 => ?_)))))
        ·replace hm := bt hm hc46
         refine Lw.want' hc46 rfl rfl rfl rfl (Lw.m (vB ((x0.At : Int) == (0 : Int))) rfl (Lw.p hc46 (vB ((x0.At : Int) == (0 : Int))) rfl (Lw.g (vB ((x0.At : Int) == (0 : Int))) rfl (Lw.nil (⟨?_, ⟨((x0.At : Int) == (0 : Int)), W42, rfl, (l22.trans (l29.trans (l36.trans l42))), rfl, hm⟩⟩)))))
         iterate 22 (refine Agree.up rfl ?_)
         exact Agree.refl _
        ·replace hm := bf hm hc46
         refine Lw.pass' hc46 rfl rfl rfl rfl rfl rfl rfl (Lw.p hc46 (vB false) rfl (Lw.g (vB false) rfl (Lw.nil (⟨?_, ⟨false, W42, rfl, (l22.trans (l29.trans (l36.trans l42))), rfl, hm⟩⟩))))
         iterate 22 (refine Agree.up rfl ?_)
         exact Agree.refl _
       ·replace hm := bf hm hc45
        refine Lw.pass' hc45 rfl rfl rfl rfl rfl rfl rfl (Lw.p hc45 (vB false) rfl (Lw.m (vB false) rfl (Lw.pass' rfl rfl rfl rfl rfl rfl rfl rfl (Lw.p rfl (vB false) rfl (Lw.g (vB false) rfl (Lw.nil (⟨?_, ⟨false, W42, rfl, (l22.trans (l29.trans (l36.trans l42))), rfl, hm⟩⟩)))))))
        iterate 22 (refine Agree.up rfl ?_)
        exact Agree.refl _
      ·replace hm := bf hm hc32
       refine Lw.pass' hc32 rfl rfl rfl rfl rfl rfl rfl (Lw.pass' hc32 rfl rfl rfl rfl rfl rfl rfl (Lw.pass' hc32 rfl rfl rfl rfl rfl rfl rfl (Lw.pass' hc32 rfl rfl rfl rfl rfl rfl rfl (Lw.pass' hc32 rfl rfl rfl rfl rfl rfl rfl (Lw.p hc32 (vB false) rfl (Lw.m (vB false) rfl (Lw.pass' rfl rfl rfl rfl rfl rfl rfl rfl (Lw.p rfl (vB false) rfl (Lw.m (vB false) rfl (Lw.pass' rfl rfl rfl rfl rfl rfl rfl rfl (Lw.p rfl (vB false) rfl (Lw.g (vB false) rfl (Lw.nil (⟨?_, ⟨false, W29, rfl, (l22.trans l29), rfl, hm⟩⟩))))))))))))))
       iterate 22 (refine Agree.up rfl ?_)
       exact Agree.refl _
     ·replace hm := bf hm hc25
      refine Lw.pass' hc25 rfl rfl rfl rfl rfl rfl rfl (Lw.pass' hc25 rfl rfl rfl rfl rfl rfl rfl (Lw.pass' hc25 rfl rfl rfl rfl rfl rfl rfl (Lw.p hc25 (vB false) rfl (Lw.m (vB false) rfl (Lw.pass' rfl rfl rfl rfl rfl rfl rfl rfl (Lw.pass' rfl rfl rfl rfl rfl rfl rfl rfl (Lw.pass' rfl rfl rfl rfl rfl rfl rfl rfl (Lw.pass' rfl rfl rfl rfl rfl rfl rfl rfl (Lw.pass' rfl rfl rfl rfl rfl rfl rfl rfl (Lw.p rfl (vB false) rfl (Lw.m (vB false) rfl (Lw.pass' rfl rfl rfl rfl rfl rfl rfl rfl (Lw.p rfl (vB false) rfl (Lw.m (vB false) rfl (Lw.pass' rfl rfl rfl rfl rfl rfl rfl rfl (Lw.p rfl (vB false) rfl (Lw.g (vB false) rfl (Lw.nil (⟨?_, ⟨false, W22, rfl, l22, rfl, hm⟩⟩)))))))))))))))))))
      iterate 22 (refine Agree.up rfl ?_)
      exact Agree.refl _
   ·replace hm := bf hm hc13
    refine Cw.seq (Cw.region (Lw.eq rfl (Lw.g (vB ((x0.Kind : Int) == (2 : Int))) rfl (Lw.nil (Cw.cond (b := ((x0.Kind : Int) == (2 : Int))) rfl (fun hc47 => ?_) (fun hc47 => ?_))))))
    ·replace hm := bt hm hc47
     obtain ⟨K50, hK50, hm⟩ := jn_e hm
     refine Cw.join 57 68 [2] (fun l w => ∃ (y48 : Bool) (W49 : CW), W49.w = w ∧ Le [] W9 W49 ∧ l = [vB y48] ∧ K50 y48 = some r) ?_ ?_
     ·rintro _ _ σ ⟨y48, W49, rfl, l49, rfl, hm⟩
      rw [hK50] at hm
      have a51 := a10.n l49
      cases hm
      exact Cw.ret (ret1 rfl (Res.mk a51 rfl))
     ·refine Cw.region (Lw.fa rfl (Lw.r rfl (R.ld (v := vS x0.Path) rfl rfl (b11.cell rfl)) ?_))
      obtain ⟨z54, e55, hm⟩ := ob hm
      refine Lw.t rfl (T.call rfl (p21 (K := [0])  (h99.ul a10) e55)) ?_
      rintro _ _ ⟨W56, rfl, l56, rfl⟩
      refine Lw.m (vB z54) rfl (bsplit z54 (fun hc59 => ?_) (fun hc59 => ?_))
      ·replace hm := bt hm hc59
       refine Lw.want' hc59 rfl rfl rfl rfl (Lw.m (vB (x0.To == ([] : Str))) rfl (Lw.p hc59 (vB (x0.To == ([] : Str))) rfl (Lw.m (vB (x0.To == ([] : Str))) rfl (bsplit (x0.To == ([] : Str)) (fun hc60 => ?_) (fun hc60 => ?_)))))
       ·replace hm := bt hm hc60
        refine Lw.want' hc60 rfl rfl rfl rfl (Lw.m (vB ((x0.At : Int) == (0 : Int))) rfl (Lw.p hc60 (vB ((x0.At : Int) == (0 : Int))) rfl (Lw.m (vB ((x0.At : Int) == (0 : Int))) rfl (bsplit ((x0.At : Int) == (0 : Int)) (fun hc61 => ?_) (fun hc61 => ?_)))))
        ·replace hm := bt hm hc61
         refine Lw.want' hc61 rfl rfl rfl rfl (Lw.m (vB (((x0.Text.length : Int) : Int) == (0 : Int))) rfl (Lw.p hc61 (vB (((x0.Text.length : Int) : Int) == (0 : Int))) rfl (Lw.g (vB (((x0.Text.length : Int) : Int) == (0 : Int))) rfl (Lw.nil (⟨?_, ⟨(((x0.Text.length : Int) : Int) == (0 : Int)), W56, rfl, l56, rfl, hm⟩⟩)))))
         iterate 13 (refine Agree.up rfl ?_)
         exact Agree.refl _
        ·replace hm := bf hm hc61
         refine Lw.pass' hc61 rfl rfl rfl rfl rfl rfl rfl (Lw.p hc61 (vB false) rfl (Lw.g (vB false) rfl (Lw.nil (⟨?_, ⟨false, W56, rfl, l56, rfl, hm⟩⟩))))
         iterate 13 (refine Agree.up rfl ?_)
         exact Agree.refl _
       ·replace hm := bf hm hc60
        refine Lw.pass' hc60 rfl rfl rfl rfl rfl rfl rfl (Lw.p hc60 (vB false) rfl (Lw.m (vB false) rfl (Lw.pass' rfl rfl rfl rfl rfl rfl rfl rfl (Lw.p rfl (vB false) rfl (Lw.g (vB false) rfl (Lw.nil (⟨?_, ⟨false, W56, rfl, l56, rfl, hm⟩⟩)))))))
        iterate 13 (refine Agree.up rfl ?_)
        exact Agree.refl _
      ·replace hm := bf hm hc59
       refine Lw.pass' hc59 rfl rfl rfl rfl rfl rfl rfl (Lw.p hc59 (vB false) rfl (Lw.m (vB false) rfl (Lw.pass' rfl rfl rfl rfl rfl rfl rfl rfl (Lw.p rfl (vB false) rfl (Lw.m (vB false) rfl (Lw.pass' rfl rfl rfl rfl rfl rfl rfl rfl (Lw.p rfl (vB false) rfl (Lw.g (vB false) rfl (Lw.nil (⟨?_, ⟨false, W56, rfl, l56, rfl, hm⟩⟩))))))))))
       iterate 13 (refine Agree.up rfl ?_)
       exact Agree.refl _
    ·replace hm := bf hm hc47
     refine Cw.seq (Cw.region (Lw.eq rfl (Lw.g (vB ((x0.Kind : Int) == (3 : Int))) rfl (Lw.nil (Cw.cond (b := ((x0.Kind : Int) == (3 : Int))) rfl (fun hc62 => ?_) (fun hc62 => ?_))))))
     ·replace hm := bt hm hc62
      obtain ⟨K65, hK65, hm⟩ := jn_e hm
      refine Cw.join 71 84 [2] (fun l w => ∃ (y63 : Bool) (W64 : CW), W64.w = w ∧ Le [] W9 W64 ∧ l = [vB y63] ∧ K65 y63 = some r) ?_ ?_
      ·rintro _ _ σ ⟨y63, W64, rfl, l64, rfl, hm⟩
       rw [hK65] at hm
       have a66 := a10.n l64
       cases hm
       exact Cw.ret (ret1 rfl (Res.mk a66 rfl))
      ·refine Cw.region (Lw.fa rfl (Lw.r rfl (R.ld (v := vS x0.Path) rfl rfl (b11.cell rfl)) ?_))
       obtain ⟨z69, e70, hm⟩ := ob hm
       refine Lw.t rfl (T.call rfl (p21 (K := [0])  (h99.ul a10) e70)) ?_
       rintro _ _ ⟨W71, rfl, l71, rfl⟩
       have a72 := a10.n l71
       refine Lw.m (vB z69) rfl (bsplit z69 (fun hc74 => ?_) (fun hc74 => ?_))
       ·replace hm := bt hm hc74
        refine Lw.want' hc74 rfl rfl rfl rfl (Lw.fa rfl (Lw.want' hc74 rfl rfl rfl rfl (Lw.r rfl (R.ld (v := vS x0.To) rfl rfl ((b11.up l71 rfl).cell rfl)) (Lw.want' hc74 rfl rfl rfl rfl ?_))))
        obtain ⟨z76, e77, hm⟩ := ob hm
        refine Lw.t rfl (T.call rfl (p21 (K := [0])  (h99.ul a72) e77)) ?_
        rintro _ _ ⟨W78, rfl, l78, rfl⟩
        refine Lw.p hc74 (vB z76) rfl (Lw.m (vB z76) rfl (bsplit z76 (fun hc81 => ?_) (fun hc81 => ?_)))
        ·replace hm := bt hm hc81
         refine Lw.want' hc81 rfl rfl rfl rfl (Lw.m (vB ((x0.At : Int) == (0 : Int))) rfl (Lw.p hc81 (vB ((x0.At : Int) == (0 : Int))) rfl (Lw.m (vB ((x0.At : Int) == (0 : Int))) rfl (bsplit ((x0.At : Int) == (0 : Int)) (fun hc82 => ?_) (fun hc82 => ?_)))))
         ·replace hm := bt hm hc82
          refine Lw.want' hc82 rfl rfl rfl rfl (Lw.m (vB (((x0.Text.length : Int) : Int) == (0 : Int))) rfl (Lw.p hc82 (vB (((x0.Text.length : Int) : Int) == (0 : Int))) rfl (Lw.g (vB (((x0.Text.length : Int) : Int) == (0 : Int))) rfl (Lw.nil (⟨?_, ⟨(((x0.Text.length : Int) : Int) == (0 : Int)), W78, rfl, (l71.trans l78), rfl, hm⟩⟩)))))
          iterate 15 (refine Agree.up rfl ?_)
          exact Agree.refl _
         ·replace hm := bf hm hc82
          refine Lw.pass' hc82 rfl rfl rfl rfl rfl rfl rfl (Lw.p hc82 (vB false) rfl (Lw.g (vB false) rfl (Lw.nil (⟨?_, ⟨false, W78, rfl, (l71.trans l78), rfl, hm⟩⟩))))
          iterate 15 (refine Agree.up rfl ?_)
          exact Agree.refl _
        ·replace hm := bf hm hc81
         refine Lw.pass' hc81 rfl rfl rfl rfl rfl rfl rfl (Lw.p hc81 (vB false) rfl (Lw.m (vB false) rfl (Lw.pass' rfl rfl rfl rfl rfl rfl rfl rfl (Lw.p rfl (vB false) rfl (Lw.g (vB false) rfl (Lw.nil (⟨?_, ⟨false, W78, rfl, (l71.trans l78), rfl, hm⟩⟩)))))))
         iterate 15 (refine Agree.up rfl ?_)
         exact Agree.refl _
       ·replace hm := bf hm hc74
        refine Lw.pass' hc74 rfl rfl rfl rfl rfl rfl rfl (Lw.pass' hc74 rfl rfl rfl rfl rfl rfl rfl (Lw.pass' hc74 rfl rfl rfl rfl rfl rfl rfl (Lw.p hc74 (vB false) rfl (Lw.m (vB false) rfl (Lw.pass' rfl rfl rfl rfl rfl rfl rfl rfl (Lw.p rfl (vB false) rfl (Lw.m (vB false) rfl (Lw.pass' rfl rfl rfl rfl rfl rfl rfl rfl (Lw.p rfl (vB false) rfl (Lw.g (vB false) rfl (Lw.nil (⟨?_, ⟨false, W71, rfl, l71, rfl, hm⟩⟩))))))))))))
        iterate 15 (refine Agree.up rfl ?_)
        exact Agree.refl _
     ·replace hm := bf hm hc62
      obtain ⟨K85, hK85, hm⟩ := jn_e hm
      refine Cw.join 85 87 [85] (fun l w => ∃ (y83 : Bool) (W84 : CW), W84.w = w ∧ Le [] W9 W84 ∧ l = [vB y83] ∧ K85 y83 = some r) ?_ ?_
      ·rintro _ _ σ ⟨y83, W84, rfl, l84, rfl, hm⟩
       rw [hK85] at hm
       have a86 := a10.n l84
       refine Cw.cond (b := y83) rfl (fun hc88 => ?_) (fun hc88 => ?_)
       ·replace hm := bt hm hc88
        obtain ⟨K91, hK91, hm⟩ := jn_e hm
        refine Cw.join 88 99 [2] (fun l w => ∃ (y89 : Bool) (W90 : CW), W90.w = w ∧ Le [] W84 W90 ∧ l = [vB y89] ∧ K91 y89 = some r) ?_ ?_
        ·rintro _ _ σ ⟨y89, W90, rfl, l90, rfl, hm⟩
         rw [hK91] at hm
         have a92 := a86.n l90
         cases hm
         exact Cw.ret (ret1 rfl (Res.mk a92 rfl))
        ·refine Cw.region (Lw.fa rfl (Lw.r rfl (R.ld (v := vS x0.To) rfl rfl ((b11.up l84 rfl).cell rfl)) ?_))
         obtain ⟨z94, e95, hm⟩ := ob hm
         refine Lw.t rfl (T.call rfl (p27 (K := [0])   e95)) ?_
         rintro _ _ ⟨W96, rfl, l96, rfl⟩
         refine Lw.m (vB z94) rfl (bsplit z94 (fun hc99 => ?_) (fun hc99 => ?_))
         ·replace hm := bt hm hc99
          refine Lw.want' hc99 rfl rfl rfl rfl (Lw.m (vB (x0.Path == ([] : Str))) rfl (Lw.p hc99 (vB (x0.Path == ([] : Str))) rfl (Lw.m (vB (x0.Path == ([] : Str))) rfl (bsplit (x0.Path == ([] : Str)) (fun hc100 => ?_) (fun hc100 => ?_)))))
          ·replace hm := bt hm hc100
           refine Lw.want' hc100 rfl rfl rfl rfl (Lw.m (vB ((x0.At : Int) == (0 : Int))) rfl (Lw.p hc100 (vB ((x0.At : Int) == (0 : Int))) rfl (Lw.m (vB ((x0.At : Int) == (0 : Int))) rfl (bsplit ((x0.At : Int) == (0 : Int)) (fun hc101 => ?_) (fun hc101 => ?_)))))
           ·replace hm := bt hm hc101
            refine Lw.want' hc101 rfl rfl rfl rfl (Lw.m (vB (((x0.Text.length : Int) : Int) == (0 : Int))) rfl (Lw.p hc101 (vB (((x0.Text.length : Int) : Int) == (0 : Int))) rfl (Lw.g (vB (((x0.Text.length : Int) : Int) == (0 : Int))) rfl (Lw.nil (⟨?_, ⟨(((x0.Text.length : Int) : Int) == (0 : Int)), W96, rfl, l96, rfl, hm⟩⟩)))))
            iterate 13 (refine Agree.up rfl ?_)
            exact Agree.refl _
           ·replace hm := bf hm hc101
            refine Lw.pass' hc101 rfl rfl rfl rfl rfl rfl rfl (Lw.p hc101 (vB false) rfl (Lw.g (vB false) rfl (Lw.nil (⟨?_, ⟨false, W96, rfl, l96, rfl, hm⟩⟩))))
            iterate 13 (refine Agree.up rfl ?_)
            exact Agree.refl _
          ·replace hm := bf hm hc100
           refine Lw.pass' hc100 rfl rfl rfl rfl rfl rfl rfl (Lw.p hc100 (vB false) rfl (Lw.m (vB false) rfl (Lw.pass' rfl rfl rfl rfl rfl rfl rfl rfl (Lw.p rfl (vB false) rfl (Lw.g (vB false) rfl (Lw.nil (⟨?_, ⟨false, W96, rfl, l96, rfl, hm⟩⟩)))))))
           iterate 13 (refine Agree.up rfl ?_)
           exact Agree.refl _
         ·replace hm := bf hm hc99
          refine Lw.pass' hc99 rfl rfl rfl rfl rfl rfl rfl (Lw.p hc99 (vB false) rfl (Lw.m (vB false) rfl (Lw.pass' rfl rfl rfl rfl rfl rfl rfl rfl (Lw.p rfl (vB false) rfl (Lw.m (vB false) rfl (Lw.pass' rfl rfl rfl rfl rfl rfl rfl rfl (Lw.p rfl (vB false) rfl (Lw.g (vB false) rfl (Lw.nil (⟨?_, ⟨false, W96, rfl, l96, rfl, hm⟩⟩))))))))))
          iterate 13 (refine Agree.up rfl ?_)
          exact Agree.refl _
       ·replace hm := bf hm hc88
        obtain ⟨K104, hK104, hm⟩ := jn_e hm
        refine Cw.join 100 102 [100] (fun l w => ∃ (y102 : Bool) (W103 : CW), W103.w = w ∧ Le [] W84 W103 ∧ l = [vB y102] ∧ K104 y102 = some r) ?_ ?_
        ·rintro _ _ σ ⟨y102, W103, rfl, l103, rfl, hm⟩
         rw [hK104] at hm
         have a105 := a86.n l103
         refine Cw.cond (b := y102) rfl (fun hc107 => ?_) (fun hc107 => ?_)
         ·replace hm := bt hm hc107
          obtain ⟨K110, hK110, hm⟩ := jn_e hm
          refine Cw.join 103 114 [2] (fun l w => ∃ (y108 : Bool) (W109 : CW), W109.w = w ∧ Le [] W103 W109 ∧ l = [vB y108] ∧ K110 y108 = some r) ?_ ?_
          ·rintro _ _ σ ⟨y108, W109, rfl, l109, rfl, hm⟩
           rw [hK110] at hm
           have a111 := a105.n l109
           cases hm
           exact Cw.ret (ret1 rfl (Res.mk a111 rfl))
          ·refine Cw.region (Lw.fa rfl (Lw.r rfl (R.ld (v := vI x0.At) rfl rfl (((b11.up l84 rfl).up l103 rfl).cell rfl)) ?_))
           obtain ⟨z113, e114, hm⟩ := ob hm
           refine Lw.t rfl (T.call rfl (p31 (K := [0])   e114)) ?_
           rintro _ _ ⟨W115, rfl, l115, rfl⟩
           refine Lw.m (vB z113) rfl (bsplit z113 (fun hc118 => ?_) (fun hc118 => ?_))
           ·replace hm := bt hm hc118
            refine Lw.want' hc118 rfl rfl rfl rfl (Lw.m (vB (x0.Path == ([] : Str))) rfl (Lw.p hc118 (vB (x0.Path == ([] : Str))) rfl (Lw.m (vB (x0.Path == ([] : Str))) rfl (bsplit (x0.Path == ([] : Str)) (fun hc119 => ?_) (fun hc119 => ?_)))))
            ·replace hm := bt hm hc119
             refine Lw.want' hc119 rfl rfl rfl rfl (Lw.m (vB (x0.To == ([] : Str))) rfl (Lw.p hc119 (vB (x0.To == ([] : Str))) rfl (Lw.m (vB (x0.To == ([] : Str))) rfl (bsplit (x0.To == ([] : Str)) (fun hc120 => ?_) (fun hc120 => ?_)))))
             ·replace hm := bt hm hc120
              refine Lw.want' hc120 rfl rfl rfl rfl (Lw.m (vB (((x0.Text.length : Int) : Int) == (0 : Int))) rfl (Lw.p hc120 (vB (((x0.Text.length : Int) : Int) == (0 : Int))) rfl (Lw.g (vB (((x0.Text.length : Int) : Int) == (0 : Int))) rfl (Lw.nil (⟨?_, ⟨(((x0.Text.length : Int) : Int) == (0 : Int)), W115, rfl, l115, rfl, hm⟩⟩)))))
              iterate 13 (refine Agree.up rfl ?_)
              exact Agree.refl _
             ·replace hm := bf hm hc120
              refine Lw.pass' hc120 rfl rfl rfl rfl rfl rfl rfl (Lw.p hc120 (vB false) rfl (Lw.g (vB false) rfl (Lw.nil (⟨?_, ⟨false, W115, rfl, l115, rfl, hm⟩⟩))))
              iterate 13 (refine Agree.up rfl ?_)
              exact Agree.refl _
            ·replace hm := bf hm hc119
             refine Lw.pass' hc119 rfl rfl rfl rfl rfl rfl rfl (Lw.p hc119 (vB false) rfl (Lw.m (vB false) rfl (Lw.pass' rfl rfl rfl rfl rfl rfl rfl rfl (Lw.p rfl (vB false) rfl (Lw.g (vB false) rfl (Lw.nil (⟨?_, ⟨false, W115, rfl, l115, rfl, hm⟩⟩)))))))
             iterate 13 (refine Agree.up rfl ?_)
             exact Agree.refl _
           ·replace hm := bf hm hc118
            refine Lw.pass' hc118 rfl rfl rfl rfl rfl rfl rfl (Lw.p hc118 (vB false) rfl (Lw.m (vB false) rfl (Lw.pass' rfl rfl rfl rfl rfl rfl rfl rfl (Lw.p rfl (vB false) rfl (Lw.m (vB false) rfl (Lw.pass' rfl rfl rfl rfl rfl rfl rfl rfl (Lw.p rfl (vB false) rfl (Lw.g (vB false) rfl (Lw.nil (⟨?_, ⟨false, W115, rfl, l115, rfl, hm⟩⟩))))))))))
            iterate 13 (refine Agree.up rfl ?_)
            exact Agree.refl _
         ·replace hm := bf hm hc107
          refine Cw.skip (Cw.seq (Cw.region (Lw.g (vB false) rfl (Lw.nil ?_))))
          cases hm
          exact Cw.ret (ret1 rfl (Res.mk a105 rfl))
        ·refine Cw.seq (Cw.region (Lw.eq rfl (Lw.g (vB ((x0.Kind : Int) == (6 : Int))) rfl (Lw.nil (Cw.cond (b := ((x0.Kind : Int) == (6 : Int))) rfl (fun hc121 => ?_) (fun hc121 => ?_))))))
         ·replace hm := bt hm hc121
          refine Cw.skip (⟨?_, ⟨((x0.Kind : Int) == (6 : Int)), W84, rfl, Le.refl _ _, rfl, hm⟩⟩)
          iterate 2 (refine Agree.up rfl ?_)
          exact Agree.refl _
         ·replace hm := bf hm hc121
          refine Cw.region (Lw.eq rfl (Lw.g (vB ((x0.Kind : Int) == (7 : Int))) rfl (Lw.nil (⟨?_, ⟨((x0.Kind : Int) == (7 : Int)), W84, rfl, Le.refl _ _, rfl, hm⟩⟩))))
          iterate 4 (refine Agree.up rfl ?_)
          exact Agree.refl _
      ·refine Cw.seq (Cw.region (Lw.eq rfl (Lw.g (vB ((x0.Kind : Int) == (4 : Int))) rfl (Lw.nil (Cw.cond (b := ((x0.Kind : Int) == (4 : Int))) rfl (fun hc122 => ?_) (fun hc122 => ?_))))))
       ·replace hm := bt hm hc122
        refine Cw.skip (⟨?_, ⟨((x0.Kind : Int) == (4 : Int)), W9, rfl, Le.refl _ _, rfl, hm⟩⟩)
        iterate 2 (refine Agree.up rfl ?_)
        exact Agree.refl _
       ·replace hm := bf hm hc122
        refine Cw.region (Lw.eq rfl (Lw.g (vB ((x0.Kind : Int) == (5 : Int))) rfl (Lw.nil (⟨?_, ⟨((x0.Kind : Int) == (5 : Int)), W9, rfl, Le.refl _ _, rfl, hm⟩⟩))))
        iterate 4 (refine Agree.up rfl ?_)
        exact Agree.refl _
 ·refine Cw.region (Lw.fa rfl (Lw.r rfl (R.ld (v := vS x0.Branch) rfl rfl (b1.cell rfl)) ?_))
  obtain ⟨z123, e124, hm⟩ := ob hm
  refine Lw.t rfl (T.call rfl (p27 (K := [0])   e124)) ?_
  rintro _ _ ⟨W125, rfl, l125, rfl⟩
  refine Lw.r rfl (R.not rfl) (Lw.m (vB (!z123)) rfl (bsplit (!z123) (fun hc128 => ?_) (fun hc128 => ?_)))
  ·replace hm := bt hm hc128
   refine Lw.pass' hc128 rfl rfl rfl rfl rfl rfl rfl (Lw.pass' hc128 rfl rfl rfl rfl rfl rfl rfl (Lw.pass' hc128 rfl rfl rfl rfl rfl rfl rfl (Lw.pass' hc128 rfl rfl rfl rfl rfl rfl rfl (Lw.p hc128 (vB true) rfl (Lw.nil (⟨?_, ⟨true, W125, rfl, l125, rfl, hm⟩⟩))))))
   iterate 10 (refine Agree.up rfl ?_)
   exact Agree.refl _
  ·replace hm := bf hm hc128
   refine Lw.want' hc128 rfl rfl rfl rfl (Lw.fa rfl (Lw.want' hc128 rfl rfl rfl rfl (Lw.r rfl (R.ld (v := vS x0.Who) rfl rfl ((b1.up l125 rfl).cell rfl)) (Lw.want' hc128 rfl rfl rfl rfl ?_))))
   obtain ⟨z129, e130, hm⟩ := ob hm
   refine Lw.t rfl (T.call rfl (p27 (K := [0])   e130)) ?_
   rintro _ _ ⟨W131, rfl, l131, rfl⟩
   refine Lw.want' hc128 rfl rfl rfl rfl (Lw.r rfl (R.not rfl) (Lw.p hc128 (vB (!z129)) rfl (Lw.nil (⟨?_, ⟨(!z129), W131, rfl, (l125.trans l131), rfl, hm⟩⟩))))
   iterate 10 (refine Agree.up rfl ?_)
   exact Agree.refl _

theorem p13 {W : CW} {K : List Nat} {x0 : Vm.Op} {v0_6_ : Value} {r : Bool} (h0 : Rd W K [vI x0.Kind, vS x0.Branch, vS x0.Who, vS x0.Path, vS x0.To, vI x0.At, v0_6_] x0) (h99 : Gl 0 W K) (hm : Vm.impl_OpOk x0 = some r) : CallR Tryd.prog 13 [.agg [vI x0.Kind, vS x0.Branch, vS x0.Who, vS x0.Path, vS x0.To, vI x0.At, v0_6_].toArray].toArray W.w (Res W [] fun W' v => v = vB r) :=
 (c13 (V := W.view K []) (h0.view _) (h99.view _) hm).ad (fk 0) fun _ _ e => e

theorem c32 {V : CW} {x0 : List Str} {v0_ : Value} {x1 : List Str} {v1_ : Value} {r : Bool} (h0 : Rd V [0] [v0_] x0) (h1 : Rd V [0] [v1_] x1) (hm : Vm.laws_eqStringS x0 x1 = some r) : CallR Tryd.prog 32 [v0_, v1_].toArray V.w (Res V LL fun Wf v => v = vB r) := by
 unfold Vm.laws_eqStringS at hm
 obtain ⟨W0, hW0⟩ : ∃ W, W = V := ⟨V, rfl⟩
 subst hW0
 refine CallR.of Tryd.func32 rfl rfl rfl rfl (Cw.seq (Cw.region (Lw.g (vB false) rfl (Lw.nil (Cw.seq (Cw.seq (Cw.region (Lw.m v0_ rfl (Lw.ln x0 h0 rfl (Lw.m v1_ rfl (Lw.ln x1 h1 rfl (Lw.ne rfl (Lw.nil (Cw.cond (b := (((x0.length : Int) : Int) != ((x1.length : Int) : Int))) rfl (fun hc1 => ?_) (fun hc1 => ?_)))))))))))))))
 ·replace hm := bt hm hc1
  refine Cw.seq (Cw.region (Lw.g (vB false) rfl (Lw.nil ?_)))
  cases hm
  exact Cw.ret (ret1 rfl (Res.mk (Le.refl _ _) rfl))
 ·replace hm := bf hm hc1
  refine Cw.skip (Cw.seq (Cw.seq (Cw.region (Lw.g (vI 0) rfl (Lw.nil (Cw.block ?_))))))
  obtain ⟨K5, hK5, hm⟩ := jn_e hm
  refine Cw.loop 11 25 [4, 5] (fun m l w => ∃ (y2 : Bool) (y3 : Int) (W4 : CW), W4.w = w ∧ Le [] W0 W4 ∧ l = [vB y2, vI y3] ∧ Vm.laws_eqStringS_l1 x0 x1 K5 m y2 y3 = some r) (((x0.length : Int) - 0).toNat + 1) ⟨false, 0, W0, rfl, Le.refl _ _, rfl, hm⟩ ?_
  rintro m6 _ _ σ ⟨y2, y3, W4, rfl, l4, rfl, hm⟩
  obtain _ | m6 := m6
  ·cases hm
  unfold Vm.laws_eqStringS_l1 at hm
  have a7 := l4.o
  refine Cw.seq (Cw.seq (Cw.region (Lw.m (vI y3) rfl (Lw.m v0_ rfl (Lw.ln x0 (h0.ul a7) rfl (Lw.lt rfl (Lw.nil (Cw.cond (b := decide ((y3 : Int) < ((x0.length : Int) : Int))) rfl (fun hc9 => ?_) (fun hc9 => ?_)))))))))
  ·replace hm := bt hm hc9
   refine Cw.skip (Cw.seq (Cw.block (Cw.seq (Cw.draw [] [(0, 0), (1, 0), (2, 0), (3, 1), (4, 0), (5, 0), (6, 0), (7, 1), (8, 0)] mixed (by kernel_rfl) fun W10 l10 => ?_))))
   have a11 := a7.n l10
   refine Mw.p rfl rfl (fun _ => R.mv (v := v0_) rfl) (Mw.p rfl rfl (fun _ => R.mv (v := vI y3) rfl) ?_)
   obtain ⟨u12, e13, hm⟩ := ob hm
   refine Mw.p rfl rfl (fun _ => R.ix (α := Str) (h0.ul a11) e13 rfl rfl rfl) (Mw.q rfl rfl (fun _ c => R.ld rfl rfl (cl_cell ((h0.ul a11).at_ e13).1 rfl ((h0.ul a11).at_ e13).str c)) (Mw.p rfl rfl (fun _ => R.mv (v := v1_) rfl) (Mw.p rfl rfl (fun _ => R.mv (v := vI y3) rfl) ?_)))
   obtain ⟨u15, e16, hm⟩ := ob hm
   refine Mw.p rfl rfl (fun _ => R.ix (α := Str) (h1.ul a11) e16 rfl rfl rfl) (Mw.q rfl rfl (fun _ c => R.ld rfl rfl (cl_cell ((h1.ul a11).at_ e16).1 rfl ((h1.ul a11).at_ e16).str c)) (Mw.p rfl rfl (fun _ => R.sne rfl rfl) (Mw.nil (Cw.cond (b := (u12 != u15)) rfl (fun hc18 => ?_) (fun hc18 => ?_)))))
   ·replace hm := bt hm hc18
    refine Cw.seq (Cw.region (Lw.g (vB false) rfl (Lw.nil ?_)))
    cases hm
    exact Cw.ret (ret1 rfl (Res.mk a11 rfl))
   ·replace hm := bf hm hc18
    refine Cw.skip (Cw.region (Lw.m (vI y3) rfl (Lw.add rfl (Lw.g (vI (w64 (y3 + 1))) rfl (Lw.nil (⟨?_, m6, Nat.lt_succ_self m6, ⟨y2, w64 (y3 + 1), W10, rfl, (l4.trans l10), rfl, hm⟩⟩))))))
    iterate 16 (refine Agree.up rfl ?_)
    iterate 2 (refine Agree.up rfl ?_)
    exact Agree.base
  ·replace hm := bf hm hc9
   refine Cw.exit ?_
   rw [hK5] at hm
   refine Cw.seq (Cw.region (Lw.g (vB true) rfl (Lw.nil ?_)))
   cases hm
   exact Cw.ret (ret1 rfl (Res.mk a7 rfl))

theorem p32 {W : CW} {K : List Nat} {x0 : List Str} {v0_ : Value} {x1 : List Str} {v1_ : Value} {r : Bool} (h0 : Rd W K [v0_] x0) (h1 : Rd W K [v1_] x1) (hm : Vm.laws_eqStringS x0 x1 = some r) : CallR Tryd.prog 32 [v0_, v1_].toArray W.w (Res W [] fun W' v => v = vB r) :=
 (c32 (V := W.view K []) (h0.view _) (h1.view _) hm).ad (fk 0) fun _ _ e => e

theorem c14 {V : CW} {x0 : Vm.Op} {v0_6_ : Value} {x1 : Vm.Op} {v1_6_ : Value} {r : Bool} (h0 : Rd V [0] [vI x0.Kind, vS x0.Branch, vS x0.Who, vS x0.Path, vS x0.To, vI x0.At, v0_6_] x0) (h1 : Rd V [0] [vI x1.Kind, vS x1.Branch, vS x1.Who, vS x1.Path, vS x1.To, vI x1.At, v1_6_] x1) (hm : Vm.laws_eqOp x0 x1 = some r) : CallR Tryd.prog 14 [.agg [vI x0.Kind, vS x0.Branch, vS x0.Who, vS x0.Path, vS x0.To, vI x0.At, v0_6_].toArray, .agg [vI x1.Kind, vS x1.Branch, vS x1.Who, vS x1.Path, vS x1.To, vI x1.At, v1_6_].toArray].toArray V.w (Res V LL fun Wf v => v = vB r) := by
 unfold Vm.laws_eqOp at hm
 obtain ⟨w0_0, he0, h0_6⟩ := Op.split h0
 simp only [List.cons.injEq, and_true, true_and] at he0
 obtain rfl := he0
 obtain ⟨w1_0, he1, h1_6⟩ := Op.split h1
 simp only [List.cons.injEq, and_true, true_and] at he1
 obtain rfl := he1
 obtain ⟨W0, hW0⟩ : ∃ W, W = V := ⟨V, rfl⟩
 subst hW0
 refine CallR.of Tryd.func14 rfl rfl rfl rfl (Cw.seq (Cw.region (Lw.t rfl (T.box 2 (v := .agg [vI x0.Kind, vS x0.Branch, vS x0.Who, vS x0.Path, vS x0.To, vI x0.At, v0_6_].toArray) (cs := [vI x0.Kind, vS x0.Branch, vS x0.Who, vS x0.Path, vS x0.To, vI x0.At, v0_6_]) rfl rfl) ?_)))
 rintro _ _ ⟨g1, W1, rfl, rfl, l1, b1⟩
 have a2 := l1.o
 refine Lw.t rfl (T.box 3 (v := .agg [vI x1.Kind, vS x1.Branch, vS x1.Who, vS x1.Path, vS x1.To, vI x1.At, v1_6_].toArray) (cs := [vI x1.Kind, vS x1.Branch, vS x1.Who, vS x1.Path, vS x1.To, vI x1.At, v1_6_]) rfl rfl) ?_
 rintro _ _ ⟨g3, W3, rfl, rfl, l3, b3⟩
 have a4 := a2.n l3
 have b5 := b1.up l3 rfl
 refine Lw.g (vB false) rfl (Lw.nil (Cw.seq (Cw.seq (Cw.region (Lw.fa rfl (Lw.r rfl (R.ld (v := vI x0.Kind) rfl rfl (b5.cell rfl)) (Lw.fa rfl (Lw.r rfl (R.ld (v := vI x1.Kind) rfl rfl (b3.cell rfl)) (Lw.ne rfl (Lw.nil (Cw.cond (b := ((x0.Kind : Int) != (x1.Kind : Int))) rfl (fun hc6 => ?_) (fun hc6 => ?_))))))))))))
 ·replace hm := bt hm hc6
  refine Cw.seq (Cw.region (Lw.g (vB false) rfl (Lw.nil ?_)))
  cases hm
  exact Cw.ret (ret1 rfl (Res.mk a4 rfl))
 ·replace hm := bf hm hc6
  refine Cw.skip (Cw.seq (Cw.seq (Cw.region (Lw.fa rfl (Lw.r rfl (R.ld (v := vS x0.Branch) rfl rfl (b5.cell rfl)) (Lw.fa rfl (Lw.r rfl (R.ld (v := vS x1.Branch) rfl rfl (b3.cell rfl)) (Lw.sne rfl (Lw.nil (Cw.cond (b := (x0.Branch != x1.Branch)) rfl (fun hc7 => ?_) (fun hc7 => ?_)))))))))))
  ·replace hm := bt hm hc7
   refine Cw.seq (Cw.region (Lw.g (vB false) rfl (Lw.nil ?_)))
   cases hm
   exact Cw.ret (ret1 rfl (Res.mk a4 rfl))
  ·replace hm := bf hm hc7
   refine Cw.skip (Cw.seq (Cw.seq (Cw.region (Lw.fa rfl (Lw.r rfl (R.ld (v := vS x0.Who) rfl rfl (b5.cell rfl)) (Lw.fa rfl (Lw.r rfl (R.ld (v := vS x1.Who) rfl rfl (b3.cell rfl)) (Lw.sne rfl (Lw.nil (Cw.cond (b := (x0.Who != x1.Who)) rfl (fun hc8 => ?_) (fun hc8 => ?_)))))))))))
   ·replace hm := bt hm hc8
    refine Cw.seq (Cw.region (Lw.g (vB false) rfl (Lw.nil ?_)))
    cases hm
    exact Cw.ret (ret1 rfl (Res.mk a4 rfl))
   ·replace hm := bf hm hc8
    refine Cw.skip (Cw.seq (Cw.seq (Cw.region (Lw.fa rfl (Lw.r rfl (R.ld (v := vS x0.Path) rfl rfl (b5.cell rfl)) (Lw.fa rfl (Lw.r rfl (R.ld (v := vS x1.Path) rfl rfl (b3.cell rfl)) (Lw.sne rfl (Lw.nil (Cw.cond (b := (x0.Path != x1.Path)) rfl (fun hc9 => ?_) (fun hc9 => ?_)))))))))))
    ·replace hm := bt hm hc9
     refine Cw.seq (Cw.region (Lw.g (vB false) rfl (Lw.nil ?_)))
     cases hm
     exact Cw.ret (ret1 rfl (Res.mk a4 rfl))
    ·replace hm := bf hm hc9
     refine Cw.skip (Cw.seq (Cw.seq (Cw.region (Lw.fa rfl (Lw.r rfl (R.ld (v := vS x0.To) rfl rfl (b5.cell rfl)) (Lw.fa rfl (Lw.r rfl (R.ld (v := vS x1.To) rfl rfl (b3.cell rfl)) (Lw.sne rfl (Lw.nil (Cw.cond (b := (x0.To != x1.To)) rfl (fun hc10 => ?_) (fun hc10 => ?_)))))))))))
     ·replace hm := bt hm hc10
      refine Cw.seq (Cw.region (Lw.g (vB false) rfl (Lw.nil ?_)))
      cases hm
      exact Cw.ret (ret1 rfl (Res.mk a4 rfl))
     ·replace hm := bf hm hc10
      refine Cw.skip (Cw.seq (Cw.seq (Cw.region (Lw.fa rfl (Lw.r rfl (R.ld (v := vI x0.At) rfl rfl (b5.cell rfl)) (Lw.fa rfl (Lw.r rfl (R.ld (v := vI x1.At) rfl rfl (b3.cell rfl)) (Lw.ne rfl (Lw.nil (Cw.cond (b := ((x0.At : Int) != (x1.At : Int))) rfl (fun hc11 => ?_) (fun hc11 => ?_)))))))))))
      ·replace hm := bt hm hc11
       refine Cw.seq (Cw.region (Lw.g (vB false) rfl (Lw.nil ?_)))
       cases hm
       exact Cw.ret (ret1 rfl (Res.mk a4 rfl))
      ·replace hm := bf hm hc11
       refine Cw.skip (Cw.seq (Cw.seq (Cw.region (Lw.fa rfl (Lw.r rfl (R.ld (v := v0_6_) rfl rfl (b5.cell rfl)) (Lw.fa rfl (Lw.r rfl (R.ld (v := v1_6_) rfl rfl (b3.cell rfl)) ?_)))))))
       obtain ⟨z14, e15, hm⟩ := ob hm
       refine Lw.t rfl (T.call rfl (p32 (K := [0])  (h0_6.ul a4) (h1_6.ul a4) e15)) ?_
       rintro _ _ ⟨W16, rfl, l16, rfl⟩
       have a17 := a4.n l16
       refine Lw.r rfl (R.not rfl) (Lw.nil (Cw.cond (b := (!z14)) rfl (fun hc20 => ?_) (fun hc20 => ?_)))
       ·replace hm := bt hm hc20
        refine Cw.seq (Cw.region (Lw.g (vB false) rfl (Lw.nil ?_)))
        cases hm
        exact Cw.ret (ret1 rfl (Res.mk a17 rfl))
       ·replace hm := bf hm hc20
        refine Cw.skip (Cw.seq (Cw.region (Lw.g (vB true) rfl (Lw.nil ?_))))
        cases hm
        exact Cw.ret (ret1 rfl (Res.mk a17 rfl))

theorem p14 {W : CW} {K : List Nat} {x0 : Vm.Op} {v0_6_ : Value} {x1 : Vm.Op} {v1_6_ : Value} {r : Bool} (h0 : Rd W K [vI x0.Kind, vS x0.Branch, vS x0.Who, vS x0.Path, vS x0.To, vI x0.At, v0_6_] x0) (h1 : Rd W K [vI x1.Kind, vS x1.Branch, vS x1.Who, vS x1.Path, vS x1.To, vI x1.At, v1_6_] x1) (hm : Vm.laws_eqOp x0 x1 = some r) : CallR Tryd.prog 14 [.agg [vI x0.Kind, vS x0.Branch, vS x0.Who, vS x0.Path, vS x0.To, vI x0.At, v0_6_].toArray, .agg [vI x1.Kind, vS x1.Branch, vS x1.Who, vS x1.Path, vS x1.To, vI x1.At, v1_6_].toArray].toArray W.w (Res W [] fun W' v => v = vB r) :=
 (c14 (V := W.view K []) (h0.view _) (h1.view _) hm).ad (fk 0) fun _ _ e => e

end Go.Sx
