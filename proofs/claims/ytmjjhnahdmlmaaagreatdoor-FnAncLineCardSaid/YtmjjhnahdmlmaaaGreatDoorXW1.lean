/- Walks: each function answers as its model, printed by a program of ours. Conditions: the arguments read as they are given. -/
import Derived.Test.YtmjjhnahdmlmaaaGreatDoorXTs
import Derived.Test.YtmjjhnahdmlmaaaGreatDoorXMd
import Derived.Test.YtmjjhnahdmlmaaaGreatDoorXW0
namespace Go.Sx
open Go Go.Proofs Go.Vm Rp
set_option linter.unusedVariables false
set_option linter.unusedSimpArgs false

theorem c75 {V : CW} {x0 : Vm.Op} {v0_6_ : Value} {x1 : Bool} {x2 : Bool} {x3 : Bool} {x4 : Bool} {r : Bool} (h0 : Rd V [0] [vI x0.Kind, vS x0.Branch, vS x0.Who, vS x0.Path, vS x0.To, vI x0.At, v0_6_] x0) (hm : Vm.spec_l19Bare x0 x1 x2 x3 x4 = some r) : CallR Tryz.prog 75 [.agg [vI x0.Kind, vS x0.Branch, vS x0.Who, vS x0.Path, vS x0.To, vI x0.At, v0_6_].toArray, vB x1, vB x2, vB x3, vB x4].toArray V.w (Res V LL fun Wf v => v = vB r) := by
 unfold Vm.spec_l19Bare at hm
 obtain ⟨w0_0, he0, h0_6⟩ := Op.split h0
 simp only [List.cons.injEq, and_true, true_and] at he0
 obtain rfl := he0
 obtain ⟨W0, hW0⟩ : ∃ W, W = V := ⟨V, rfl⟩
 subst hW0
 refine CallR.of Tryz.func75 rfl rfl rfl rfl (Cw.seq (Cw.region (Lw.t rfl (T.box 2 (v := .agg [vI x0.Kind, vS x0.Branch, vS x0.Who, vS x0.Path, vS x0.To, vI x0.At, v0_6_].toArray) (cs := [vI x0.Kind, vS x0.Branch, vS x0.Who, vS x0.Path, vS x0.To, vI x0.At, v0_6_]) rfl rfl) ?_)))
 rintro _ _ ⟨g1, W1, rfl, rfl, l1, b1⟩
 have a2 := l1.o
 refine Lw.g (vB false) rfl (Lw.nil ?_)
 obtain ⟨K5, hK5, hm⟩ := jn_e hm
 refine Cw.join 11 41 [10] (fun l w => ∃ (y3 : Bool) (W4 : CW), W4.w = w ∧ Le [] W1 W4 ∧ l = [vB y3] ∧ K5 y3 = some r) ?_ ?_
 ·rintro _ _ σ ⟨y3, W4, rfl, l4, rfl, hm⟩
  rw [hK5] at hm
  have a6 := a2.n l4
  cases hm
  exact Cw.ret (ret1 rfl (Res.mk a6 rfl))
 ·refine Cw.region (Lw.m (vB x1) rfl (Lw.m (vB x1) rfl (bsplit x1 (fun hc8 => ?_) (fun hc8 => ?_))))
  ·replace hm := bt hm hc8
   refine Lw.ps hc8 rfl (Lw.ps hc8 rfl (Lw.ps hc8 rfl (Lw.p hc8 (vB true) rfl (Lw.m (vB true) rfl (Lw.wa rfl rfl (Lw.m (vB x2) rfl (Lw.wa rfl rfl (Lw.m (vB x2) rfl (bsplit x2 (fun hc9 => ?_) (fun hc9 => ?_))))))))))
   ·replace hm := bt hm hc9
    refine Lw.ps hc9 rfl (Lw.ps hc9 rfl (Lw.ps hc9 rfl (Lw.wa rfl rfl (Lw.p hc9 (vB true) rfl (Lw.p rfl (vB true) rfl (Lw.m (vB true) rfl (Lw.wa rfl rfl (Lw.m (vB x3) rfl (Lw.wa rfl rfl (Lw.m (vB x3) rfl (bsplit x3 (fun hc10 => ?_) (fun hc10 => ?_))))))))))))
    ·replace hm := bt hm hc10
     refine Lw.ps hc10 rfl (Lw.ps hc10 rfl (Lw.ps hc10 rfl (Lw.wa rfl rfl (Lw.p hc10 (vB true) rfl (Lw.p rfl (vB true) rfl (Lw.m (vB true) rfl (Lw.wa rfl rfl (Lw.m (vB x4) rfl (Lw.wa rfl rfl (Lw.m (vB x4) rfl (bsplit x4 (fun hc11 => ?_) (fun hc11 => ?_))))))))))))
     ·replace hm := bt hm hc11
      refine Lw.ps hc11 rfl (Lw.ps hc11 rfl (Lw.ps hc11 rfl (Lw.ps hc11 rfl (Lw.wa rfl rfl (Lw.p hc11 (vB true) rfl (Lw.p rfl (vB true) rfl (Lw.g (vB true) rfl (Lw.nil (⟨?_, ⟨true, W1, rfl, Le.refl _ _, rfl, hm⟩⟩)))))))))
      iterate 32 (refine .u ?_)
      exact Agree.refl _
     ·replace hm := bf hm hc11
      refine Lw.wa hc11 rfl (Lw.fa rfl (Lw.wa hc11 rfl (Lw.r rfl (R.ld (v := v0_6_) rfl rfl (b1.cell rfl)) (Lw.wa hc11 rfl (Lw.ln x0.Text (h0_6.ul a2) rfl (Lw.wa hc11 rfl (Lw.eq rfl (Lw.wa rfl rfl (Lw.p hc11 (vB (((x0.Text.length : Int) : Int) == (0 : Int))) rfl (Lw.p rfl (vB (((x0.Text.length : Int) : Int) == (0 : Int))) rfl (Lw.g (vB (((x0.Text.length : Int) : Int) == (0 : Int))) rfl (Lw.nil (⟨?_, ⟨(((x0.Text.length : Int) : Int) == (0 : Int)), W1, rfl, Le.refl _ _, rfl, hm⟩⟩)))))))))))))
      iterate 32 (refine .u ?_)
      exact Agree.refl _
    ·replace hm := bf hm hc10
     refine Lw.wa hc10 rfl (Lw.fa rfl (Lw.wa hc10 rfl (Lw.r rfl (R.ld (v := vI x0.At) rfl rfl (b1.cell rfl)) (Lw.wa hc10 rfl (Lw.eq rfl (Lw.wa rfl rfl (Lw.p hc10 (vB ((x0.At : Int) == (0 : Int))) rfl (Lw.p rfl (vB ((x0.At : Int) == (0 : Int))) rfl (Lw.m (vB ((x0.At : Int) == (0 : Int))) rfl (bsplit ((x0.At : Int) == (0 : Int)) (fun hc13 => ?_) (fun hc13 => ?_)))))))))))
     ·replace hm := bt hm hc13
      refine Lw.wa hc13 rfl (Lw.m (vB x4) rfl (Lw.wa hc13 rfl (Lw.m (vB x4) rfl (bsplit x4 (fun hc14 => ?_) (fun hc14 => ?_)))))
      ·replace hm := bt hm hc14
       refine Lw.ps hc14 rfl (Lw.ps hc14 rfl (Lw.ps hc14 rfl (Lw.ps hc14 rfl (Lw.wa hc13 rfl (Lw.p hc14 (vB true) rfl (Lw.p hc13 (vB true) rfl (Lw.g (vB true) rfl (Lw.nil (⟨?_, ⟨true, W1, rfl, Le.refl _ _, rfl, hm⟩⟩)))))))))
       iterate 32 (refine .u ?_)
       exact Agree.refl _
      ·replace hm := bf hm hc14
       refine Lw.wa hc14 rfl (Lw.fa rfl (Lw.wa hc14 rfl (Lw.r rfl (R.ld (v := v0_6_) rfl rfl (b1.cell rfl)) (Lw.wa hc14 rfl (Lw.ln x0.Text (h0_6.ul a2) rfl (Lw.wa hc14 rfl (Lw.eq rfl (Lw.wa hc13 rfl (Lw.p hc14 (vB (((x0.Text.length : Int) : Int) == (0 : Int))) rfl (Lw.p hc13 (vB (((x0.Text.length : Int) : Int) == (0 : Int))) rfl (Lw.g (vB (((x0.Text.length : Int) : Int) == (0 : Int))) rfl (Lw.nil (⟨?_, ⟨(((x0.Text.length : Int) : Int) == (0 : Int)), W1, rfl, Le.refl _ _, rfl, hm⟩⟩)))))))))))))
       iterate 32 (refine .u ?_)
       exact Agree.refl _
     ·replace hm := bf hm hc13
      refine Lw.ps hc13 rfl (Lw.ps hc13 rfl (Lw.pu rfl (Lw.pu rfl (Lw.pu rfl (Lw.pu rfl (Lw.ps hc13 rfl (Lw.p hc13 (vB false) rfl (Lw.g (vB false) rfl (Lw.nil (⟨?_, ⟨false, W1, rfl, Le.refl _ _, rfl, hm⟩⟩))))))))))
      iterate 32 (refine .u ?_)
      exact Agree.refl _
   ·replace hm := bf hm hc9
    refine Lw.wa hc9 rfl (Lw.fa rfl (Lw.wa hc9 rfl (Lw.r rfl (R.ld (v := vS x0.To) rfl rfl (b1.cell rfl)) (Lw.wa hc9 rfl (Lw.seq rfl (Lw.wa rfl rfl (Lw.p hc9 (vB (x0.To == ([] : Str))) rfl (Lw.p rfl (vB (x0.To == ([] : Str))) rfl (Lw.m (vB (x0.To == ([] : Str))) rfl (bsplit (x0.To == ([] : Str)) (fun hc16 => ?_) (fun hc16 => ?_)))))))))))
    ·replace hm := bt hm hc16
     refine Lw.wa hc16 rfl (Lw.m (vB x3) rfl (Lw.wa hc16 rfl (Lw.m (vB x3) rfl (bsplit x3 (fun hc17 => ?_) (fun hc17 => ?_)))))
     ·replace hm := bt hm hc17
      refine Lw.ps hc17 rfl (Lw.ps hc17 rfl (Lw.ps hc17 rfl (Lw.wa hc16 rfl (Lw.p hc17 (vB true) rfl (Lw.p hc16 (vB true) rfl (Lw.m (vB true) rfl (Lw.wa rfl rfl (Lw.m (vB x4) rfl (Lw.wa rfl rfl (Lw.m (vB x4) rfl (bsplit x4 (fun hc18 => ?_) (fun hc18 => ?_))))))))))))
      ·replace hm := bt hm hc18
       refine Lw.ps hc18 rfl (Lw.ps hc18 rfl (Lw.ps hc18 rfl (Lw.ps hc18 rfl (Lw.wa rfl rfl (Lw.p hc18 (vB true) rfl (Lw.p rfl (vB true) rfl (Lw.g (vB true) rfl (Lw.nil (⟨?_, ⟨true, W1, rfl, Le.refl _ _, rfl, hm⟩⟩)))))))))
       iterate 32 (refine .u ?_)
       exact Agree.refl _
      ·replace hm := bf hm hc18
       refine Lw.wa hc18 rfl (Lw.fa rfl (Lw.wa hc18 rfl (Lw.r rfl (R.ld (v := v0_6_) rfl rfl (b1.cell rfl)) (Lw.wa hc18 rfl (Lw.ln x0.Text (h0_6.ul a2) rfl (Lw.wa hc18 rfl (Lw.eq rfl (Lw.wa rfl rfl (Lw.p hc18 (vB (((x0.Text.length : Int) : Int) == (0 : Int))) rfl (Lw.p rfl (vB (((x0.Text.length : Int) : Int) == (0 : Int))) rfl (Lw.g (vB (((x0.Text.length : Int) : Int) == (0 : Int))) rfl (Lw.nil (⟨?_, ⟨(((x0.Text.length : Int) : Int) == (0 : Int)), W1, rfl, Le.refl _ _, rfl, hm⟩⟩)))))))))))))
       iterate 32 (refine .u ?_)
       exact Agree.refl _
     ·replace hm := bf hm hc17
      refine Lw.wa hc17 rfl (Lw.fa rfl (Lw.wa hc17 rfl (Lw.r rfl (R.ld (v := vI x0.At) rfl rfl (b1.cell rfl)) (Lw.wa hc17 rfl (Lw.eq rfl (Lw.wa hc16 rfl (Lw.p hc17 (vB ((x0.At : Int) == (0 : Int))) rfl (Lw.p hc16 (vB ((x0.At : Int) == (0 : Int))) rfl (Lw.m (vB ((x0.At : Int) == (0 : Int))) rfl (bsplit ((x0.At : Int) == (0 : Int)) (fun hc20 => ?_) (fun hc20 => ?_)))))))))))
      ·replace hm := bt hm hc20
       refine Lw.wa hc20 rfl (Lw.m (vB x4) rfl (Lw.wa hc20 rfl (Lw.m (vB x4) rfl (bsplit x4 (fun hc21 => ?_) (fun hc21 => ?_)))))
       ·replace hm := bt hm hc21
        refine Lw.ps hc21 rfl (Lw.ps hc21 rfl (Lw.ps hc21 rfl (Lw.ps hc21 rfl (Lw.wa hc20 rfl (Lw.p hc21 (vB true) rfl (Lw.p hc20 (vB true) rfl (Lw.g (vB true) rfl (Lw.nil (⟨?_, ⟨true, W1, rfl, Le.refl _ _, rfl, hm⟩⟩)))))))))
        iterate 32 (refine .u ?_)
        exact Agree.refl _
       ·replace hm := bf hm hc21
        refine Lw.wa hc21 rfl (Lw.fa rfl (Lw.wa hc21 rfl (Lw.r rfl (R.ld (v := v0_6_) rfl rfl (b1.cell rfl)) (Lw.wa hc21 rfl (Lw.ln x0.Text (h0_6.ul a2) rfl (Lw.wa hc21 rfl (Lw.eq rfl (Lw.wa hc20 rfl (Lw.p hc21 (vB (((x0.Text.length : Int) : Int) == (0 : Int))) rfl (Lw.p hc20 (vB (((x0.Text.length : Int) : Int) == (0 : Int))) rfl (Lw.g (vB (((x0.Text.length : Int) : Int) == (0 : Int))) rfl (Lw.nil (⟨?_, ⟨(((x0.Text.length : Int) : Int) == (0 : Int)), W1, rfl, Le.refl _ _, rfl, hm⟩⟩)))))))))))))
        iterate 32 (refine .u ?_)
        exact Agree.refl _
      ·replace hm := bf hm hc20
       refine Lw.ps hc20 rfl (Lw.ps hc20 rfl (Lw.pu rfl (Lw.pu rfl (Lw.pu rfl (Lw.pu rfl (Lw.ps hc20 rfl (Lw.p hc20 (vB false) rfl (Lw.g (vB false) rfl (Lw.nil (⟨?_, ⟨false, W1, rfl, Le.refl _ _, rfl, hm⟩⟩))))))))))
       iterate 32 (refine .u ?_)
       exact Agree.refl _
    ·replace hm := bf hm hc16
     refine Lw.ps hc16 rfl (Lw.ps hc16 rfl (Lw.pu rfl (Lw.pu rfl (Lw.pu rfl (Lw.ps hc16 rfl (Lw.p hc16 (vB false) rfl (Lw.m (vB false) rfl (Lw.ps rfl rfl (Lw.ps rfl rfl (Lw.pu rfl (Lw.pu rfl (Lw.pu rfl (Lw.pu rfl (Lw.ps rfl rfl (Lw.p rfl (vB false) rfl (Lw.g (vB false) rfl (Lw.nil (⟨?_, ⟨false, W1, rfl, Le.refl _ _, rfl, hm⟩⟩))))))))))))))))))
     iterate 32 (refine .u ?_)
     exact Agree.refl _
  ·replace hm := bf hm hc8
   refine Lw.wa hc8 rfl (Lw.fa rfl (Lw.wa hc8 rfl (Lw.r rfl (R.ld (v := vS x0.Path) rfl rfl (b1.cell rfl)) (Lw.wa hc8 rfl (Lw.seq rfl (Lw.p hc8 (vB (x0.Path == ([] : Str))) rfl (Lw.m (vB (x0.Path == ([] : Str))) rfl (bsplit (x0.Path == ([] : Str)) (fun hc23 => ?_) (fun hc23 => ?_)))))))))
   ·replace hm := bt hm hc23
    refine Lw.wa hc23 rfl (Lw.m (vB x2) rfl (Lw.wa hc23 rfl (Lw.m (vB x2) rfl (bsplit x2 (fun hc24 => ?_) (fun hc24 => ?_)))))
    ·replace hm := bt hm hc24
     refine Lw.ps hc24 rfl (Lw.ps hc24 rfl (Lw.ps hc24 rfl (Lw.wa hc23 rfl (Lw.p hc24 (vB true) rfl (Lw.p hc23 (vB true) rfl (Lw.m (vB true) rfl (Lw.wa rfl rfl (Lw.m (vB x3) rfl (Lw.wa rfl rfl (Lw.m (vB x3) rfl (bsplit x3 (fun hc25 => ?_) (fun hc25 => ?_))))))))))))
     ·replace hm := bt hm hc25
      refine Lw.ps hc25 rfl (Lw.ps hc25 rfl (Lw.ps hc25 rfl (Lw.wa rfl rfl (Lw.p hc25 (vB true) rfl (Lw.p rfl (vB true) rfl (Lw.m (vB true) rfl (Lw.wa rfl rfl (Lw.m (vB x4) rfl (Lw.wa rfl rfl (Lw.m (vB x4) rfl (bsplit x4 (fun hc26 => ?_) (fun hc26 => ?_))))))))))))
      ·replace hm := bt hm hc26
       refine Lw.ps hc26 rfl (Lw.ps hc26 rfl (Lw.ps hc26 rfl (Lw.ps hc26 rfl (Lw.wa rfl rfl (Lw.p hc26 (vB true) rfl (Lw.p rfl (vB true) rfl (Lw.g (vB true) rfl (Lw.nil (⟨?_, ⟨true, W1, rfl, Le.refl _ _, rfl, hm⟩⟩)))))))))
       iterate 32 (refine .u ?_)
       exact Agree.refl _
      ·replace hm := bf hm hc26
       refine Lw.wa hc26 rfl (Lw.fa rfl (Lw.wa hc26 rfl (Lw.r rfl (R.ld (v := v0_6_) rfl rfl (b1.cell rfl)) (Lw.wa hc26 rfl (Lw.ln x0.Text (h0_6.ul a2) rfl (Lw.wa hc26 rfl (Lw.eq rfl (Lw.wa rfl rfl (Lw.p hc26 (vB (((x0.Text.length : Int) : Int) == (0 : Int))) rfl (Lw.p rfl (vB (((x0.Text.length : Int) : Int) == (0 : Int))) rfl (Lw.g (vB (((x0.Text.length : Int) : Int) == (0 : Int))) rfl (Lw.nil (⟨?_, ⟨(((x0.Text.length : Int) : Int) == (0 : Int)), W1, rfl, Le.refl _ _, rfl, hm⟩⟩)))))))))))))
       iterate 32 (refine .u ?_)
       exact Agree.refl _
     ·replace hm := bf hm hc25
      refine Lw.wa hc25 rfl (Lw.fa rfl (Lw.wa hc25 rfl (Lw.r rfl (R.ld (v := vI x0.At) rfl rfl (b1.cell rfl)) (Lw.wa hc25 rfl (Lw.eq rfl (Lw.wa rfl rfl (Lw.p hc25 (vB ((x0.At : Int) == (0 : Int))) rfl (Lw.p rfl (vB ((x0.At : Int) == (0 : Int))) rfl (Lw.m (vB ((x0.At : Int) == (0 : Int))) rfl (bsplit ((x0.At : Int) == (0 : Int)) (fun hc28 => ?_) (fun hc28 => ?_)))))))))))
      ·replace hm := bt hm hc28
       refine Lw.wa hc28 rfl (Lw.m (vB x4) rfl (Lw.wa hc28 rfl (Lw.m (vB x4) rfl (bsplit x4 (fun hc29 => ?_) (fun hc29 => ?_)))))
       ·replace hm := bt hm hc29
        refine Lw.ps hc29 rfl (Lw.ps hc29 rfl (Lw.ps hc29 rfl (Lw.ps hc29 rfl (Lw.wa hc28 rfl (Lw.p hc29 (vB true) rfl (Lw.p hc28 (vB true) rfl (Lw.g (vB true) rfl (Lw.nil (⟨?_, ⟨true, W1, rfl, Le.refl _ _, rfl, hm⟩⟩)))))))))
        iterate 32 (refine .u ?_)
        exact Agree.refl _
       ·replace hm := bf hm hc29
        refine Lw.wa hc29 rfl (Lw.fa rfl (Lw.wa hc29 rfl (Lw.r rfl (R.ld (v := v0_6_) rfl rfl (b1.cell rfl)) (Lw.wa hc29 rfl (Lw.ln x0.Text (h0_6.ul a2) rfl (Lw.wa hc29 rfl (Lw.eq rfl (Lw.wa hc28 rfl (Lw.p hc29 (vB (((x0.Text.length : Int) : Int) == (0 : Int))) rfl (Lw.p hc28 (vB (((x0.Text.length : Int) : Int) == (0 : Int))) rfl (Lw.g (vB (((x0.Text.length : Int) : Int) == (0 : Int))) rfl (Lw.nil (⟨?_, ⟨(((x0.Text.length : Int) : Int) == (0 : Int)), W1, rfl, Le.refl _ _, rfl, hm⟩⟩)))))))))))))
        iterate 32 (refine .u ?_)
        exact Agree.refl _
      ·replace hm := bf hm hc28
       refine Lw.ps hc28 rfl (Lw.ps hc28 rfl (Lw.pu rfl (Lw.pu rfl (Lw.pu rfl (Lw.pu rfl (Lw.ps hc28 rfl (Lw.p hc28 (vB false) rfl (Lw.g (vB false) rfl (Lw.nil (⟨?_, ⟨false, W1, rfl, Le.refl _ _, rfl, hm⟩⟩))))))))))
       iterate 32 (refine .u ?_)
       exact Agree.refl _
    ·replace hm := bf hm hc24
     refine Lw.wa hc24 rfl (Lw.fa rfl (Lw.wa hc24 rfl (Lw.r rfl (R.ld (v := vS x0.To) rfl rfl (b1.cell rfl)) (Lw.wa hc24 rfl (Lw.seq rfl (Lw.wa hc23 rfl (Lw.p hc24 (vB (x0.To == ([] : Str))) rfl (Lw.p hc23 (vB (x0.To == ([] : Str))) rfl (Lw.m (vB (x0.To == ([] : Str))) rfl (bsplit (x0.To == ([] : Str)) (fun hc31 => ?_) (fun hc31 => ?_)))))))))))
     ·replace hm := bt hm hc31
      refine Lw.wa hc31 rfl (Lw.m (vB x3) rfl (Lw.wa hc31 rfl (Lw.m (vB x3) rfl (bsplit x3 (fun hc32 => ?_) (fun hc32 => ?_)))))
      ·replace hm := bt hm hc32
       refine Lw.ps hc32 rfl (Lw.ps hc32 rfl (Lw.ps hc32 rfl (Lw.wa hc31 rfl (Lw.p hc32 (vB true) rfl (Lw.p hc31 (vB true) rfl (Lw.m (vB true) rfl (Lw.wa rfl rfl (Lw.m (vB x4) rfl (Lw.wa rfl rfl (Lw.m (vB x4) rfl (bsplit x4 (fun hc33 => ?_) (fun hc33 => ?_))))))))))))
       ·replace hm := bt hm hc33
        refine Lw.ps hc33 rfl (Lw.ps hc33 rfl (Lw.ps hc33 rfl (Lw.ps hc33 rfl (Lw.wa rfl rfl (Lw.p hc33 (vB true) rfl (Lw.p rfl (vB true) rfl (Lw.g (vB true) rfl (Lw.nil (⟨?_, ⟨true, W1, rfl, Le.refl _ _, rfl, hm⟩⟩)))))))))
        iterate 32 (refine .u ?_)
        exact Agree.refl _
       ·replace hm := bf hm hc33
        refine Lw.wa hc33 rfl (Lw.fa rfl (Lw.wa hc33 rfl (Lw.r rfl (R.ld (v := v0_6_) rfl rfl (b1.cell rfl)) (Lw.wa hc33 rfl (Lw.ln x0.Text (h0_6.ul a2) rfl (Lw.wa hc33 rfl (Lw.eq rfl (Lw.wa rfl rfl (Lw.p hc33 (vB (((x0.Text.length : Int) : Int) == (0 : Int))) rfl (Lw.p rfl (vB (((x0.Text.length : Int) : Int) == (0 : Int))) rfl (Lw.g (vB (((x0.Text.length : Int) : Int) == (0 : Int))) rfl (Lw.nil (⟨?_, ⟨(((x0.Text.length : Int) : Int) == (0 : Int)), W1, rfl, Le.refl _ _, rfl, hm⟩⟩)))))))))))))
        iterate 32 (refine .u ?_)
        exact Agree.refl _
      ·replace hm := bf hm hc32
       refine Lw.wa hc32 rfl (Lw.fa rfl (Lw.wa hc32 rfl (Lw.r rfl (R.ld (v := vI x0.At) rfl rfl (b1.cell rfl)) (Lw.wa hc32 rfl (Lw.eq rfl (Lw.wa hc31 rfl (Lw.p hc32 (vB ((x0.At : Int) == (0 : Int))) rfl (Lw.p hc31 (vB ((x0.At : Int) == (0 : Int))) rfl (Lw.m (vB ((x0.At : Int) == (0 : Int))) rfl (bsplit ((x0.At : Int) == (0 : Int)) (fun hc35 => ?_) (fun hc35 => ?_)))))))))))
       ·replace hm := bt hm hc35
        refine Lw.wa hc35 rfl (Lw.m (vB x4) rfl (Lw.wa hc35 rfl (Lw.m (vB x4) rfl (bsplit x4 (fun hc36 => ?_) (fun hc36 => ?_)))))
        ·replace hm := bt hm hc36
         refine Lw.ps hc36 rfl (Lw.ps hc36 rfl (Lw.ps hc36 rfl (Lw.ps hc36 rfl (Lw.wa hc35 rfl (Lw.p hc36 (vB true) rfl (Lw.p hc35 (vB true) rfl (Lw.g (vB true) rfl (Lw.nil (⟨?_, ⟨true, W1, rfl, Le.refl _ _, rfl, hm⟩⟩)))))))))
         iterate 32 (refine .u ?_)
         exact Agree.refl _
        ·replace hm := bf hm hc36
         refine Lw.wa hc36 rfl (Lw.fa rfl (Lw.wa hc36 rfl (Lw.r rfl (R.ld (v := v0_6_) rfl rfl (b1.cell rfl)) (Lw.wa hc36 rfl (Lw.ln x0.Text (h0_6.ul a2) rfl (Lw.wa hc36 rfl (Lw.eq rfl (Lw.wa hc35 rfl (Lw.p hc36 (vB (((x0.Text.length : Int) : Int) == (0 : Int))) rfl (Lw.p hc35 (vB (((x0.Text.length : Int) : Int) == (0 : Int))) rfl (Lw.g (vB (((x0.Text.length : Int) : Int) == (0 : Int))) rfl (Lw.nil (⟨?_, ⟨(((x0.Text.length : Int) : Int) == (0 : Int)), W1, rfl, Le.refl _ _, rfl, hm⟩⟩)))))))))))))
         iterate 32 (refine .u ?_)
         exact Agree.refl _
       ·replace hm := bf hm hc35
        refine Lw.ps hc35 rfl (Lw.ps hc35 rfl (Lw.pu rfl (Lw.pu rfl (Lw.pu rfl (Lw.pu rfl (Lw.ps hc35 rfl (Lw.p hc35 (vB false) rfl (Lw.g (vB false) rfl (Lw.nil (⟨?_, ⟨false, W1, rfl, Le.refl _ _, rfl, hm⟩⟩))))))))))
        iterate 32 (refine .u ?_)
        exact Agree.refl _
     ·replace hm := bf hm hc31
      refine Lw.ps hc31 rfl (Lw.ps hc31 rfl (Lw.pu rfl (Lw.pu rfl (Lw.pu rfl (Lw.ps hc31 rfl (Lw.p hc31 (vB false) rfl (Lw.m (vB false) rfl (Lw.ps rfl rfl (Lw.ps rfl rfl (Lw.pu rfl (Lw.pu rfl (Lw.pu rfl (Lw.pu rfl (Lw.ps rfl rfl (Lw.p rfl (vB false) rfl (Lw.g (vB false) rfl (Lw.nil (⟨?_, ⟨false, W1, rfl, Le.refl _ _, rfl, hm⟩⟩))))))))))))))))))
      iterate 32 (refine .u ?_)
      exact Agree.refl _
   ·replace hm := bf hm hc23
    refine Lw.ps hc23 rfl (Lw.ps hc23 rfl (Lw.pu rfl (Lw.pu rfl (Lw.pu rfl (Lw.ps hc23 rfl (Lw.p hc23 (vB false) rfl (Lw.m (vB false) rfl (Lw.ps rfl rfl (Lw.ps rfl rfl (Lw.pu rfl (Lw.pu rfl (Lw.pu rfl (Lw.ps rfl rfl (Lw.p rfl (vB false) rfl (Lw.m (vB false) rfl (Lw.ps rfl rfl (Lw.ps rfl rfl (Lw.pu rfl (Lw.pu rfl (Lw.pu rfl (Lw.pu rfl (Lw.ps rfl rfl (Lw.p rfl (vB false) rfl (Lw.g (vB false) rfl (Lw.nil (⟨?_, ⟨false, W1, rfl, Le.refl _ _, rfl, hm⟩⟩))))))))))))))))))))))))))
    iterate 32 (refine .u ?_)
    exact Agree.refl _

theorem p75 {W : CW} {K : List Nat} {x0 : Vm.Op} {v0_6_ : Value} {x1 : Bool} {x2 : Bool} {x3 : Bool} {x4 : Bool} {r : Bool} (h0 : Rd W K [vI x0.Kind, vS x0.Branch, vS x0.Who, vS x0.Path, vS x0.To, vI x0.At, v0_6_] x0) (hm : Vm.spec_l19Bare x0 x1 x2 x3 x4 = some r) : CallR Tryz.prog 75 [.agg [vI x0.Kind, vS x0.Branch, vS x0.Who, vS x0.Path, vS x0.To, vI x0.At, v0_6_].toArray, vB x1, vB x2, vB x3, vB x4].toArray W.w (Res W [] fun W' v => v = vB r) :=
 (c75 (V := W.view K []) (h0.view _) hm).ad (fk 0) fun _ _ e => e

theorem c70 {V : CW} {x0 : Str} {x1 : Byte} {x2 : Int} {r : (List Str)}  (hm : Vm.spec_l1Cut x0 x1 x2 = some r) : CallR Tryz.prog 70 [vS x0, .int .u8 (UInt8.toNat x1 : Int), vI x2].toArray V.w (Res V LL fun Wf v => ∃ (u0 : Value), v = u0 ∧ OwS Wf LL [] [u0] r) := by
 unfold Vm.spec_l1Cut at hm
 obtain ⟨W0, hW0⟩ : ∃ W, W = V := ⟨V, rfl⟩
 subst hW0
 refine CallR.of Tryz.func70 rfl rfl rfl rfl (Cw.seq (Cw.region (Lw.g (.slice none 0 0) rfl (Lw.nil (Cw.seq (Cw.region (Lw.t rfl (T.lit0 (α := Str) 2 []) ?_)))))))
 rintro v1 _ ⟨W1, rfl, l1, o1⟩
 have a2 := l1.o
 refine Lw.g v1 rfl (Lw.nil (Cw.seq (Cw.region (Lw.g (vI 0) rfl (Lw.nil (Cw.seq (Cw.seq (Cw.region (Lw.g (vI 0) rfl (Lw.nil (Cw.block ?_)))))))))))
 obtain ⟨K9, hK9, hm⟩ := jn_e hm
 refine Cw.loop 11 36 [7, 8, 9] (fun m l w => ∃ (y3 : List Str) (y6 : Int) (y7 : Int) (v4 : Value) (W8 : CW), W8.w = w ∧ Le [2] W1 W8 ∧ l = [v4, vI y6, vI y7] ∧ Ow W8 2 [] [v4] y3 ∧ Vm.spec_l1Cut_l1 x0 x1 x2 K9 m y3 y6 y7 = some r) (x0.length + 1) ⟨([] : List Str), 0, 0, v1, W1, rfl, Le.refl _ _, rfl, o1, hm⟩ ?_
 rintro m10 _ _ σ ⟨y3, y6, y7, v4, W8, rfl, l8, rfl, o5, hm⟩
 obtain _ | m10 := m10
 ·cases hm
 unfold Vm.spec_l1Cut_l1 at hm
 have a11 := a2.t l8 rfl
 refine Cw.seq ?_
 obtain ⟨K14, hK14, hm⟩ := jn_e hm
 refine Cw.join 11 20 [20] (fun l w => ∃ (y12 : Bool) (W13 : CW), W13.w = w ∧ Le [] W8 W13 ∧ l = [vB y12] ∧ K14 y12 = some r) ?_ ?_
 ·rintro _ _ σ ⟨y12, W13, rfl, l13, rfl, hm⟩
  rw [hK14] at hm
  have a15 := a11.n l13
  have o16 := o5.up l13 rfl
  refine Cw.cond (b := y12) rfl (fun hc17 => ?_) (fun hc17 => ?_)
  ·replace hm := bt hm hc17
   refine Cw.skip ?_
   obtain ⟨K23, hK23, hm⟩ := jn_e hm
   refine Cw.join 23 36 [7, 8] (fun l w => ∃ (y18 : List Str) (y21 : Int) (v19 : Value) (W22 : CW), W22.w = w ∧ Le [2] W13 W22 ∧ l = [v19, vI y21] ∧ Ow W22 2 [] [v19] y18 ∧ K23 y18 y21 = some r) ?_ ?_
   ·rintro _ _ σ ⟨y18, y21, v19, W22, rfl, l22, rfl, o20, hm⟩
    rw [hK23] at hm
    refine Cw.region (Lw.m (vI y7) rfl (Lw.add rfl (Lw.g (vI (w64 (y7 + 1))) rfl (Lw.nil (⟨?_, m10, Nat.lt_succ_self m10, ⟨y18, y21, w64 (y7 + 1), v19, W22, rfl, (l8.trans ((l13.sub rfl).trans l22)), rfl, o20, hm⟩⟩)))))
    iterate 5 (refine .u ?_)
    refine Agree.ov0 rfl ?_
    iterate 1 (refine .u ?_)
    refine Agree.ov0 rfl ?_
    iterate 3 (refine .u ?_)
    exact Agree.base
   ·refine Cw.block (Cw.seq (Cw.region (Lw.m (vS x0) rfl (Lw.m (vI y7) rfl ?_))))
    obtain ⟨u25, e26, hm⟩ := ob hm
    refine Lw.r rfl (R.chm e26 rfl rfl) (Lw.m (.int .u8 (UInt8.toNat x1 : Int)) rfl (Lw.eq rfl (Lw.nil (Cw.cond (b := (((UInt8.toNat u25 : Int) : Int) == ((UInt8.toNat x1 : Int) : Int))) rfl (fun hc27 => ?_) (fun hc27 => ?_)))))
    ·replace hm := bt hm hc27
     refine Cw.seq (Cw.region (Lw.m v4 rfl (Lw.m (vS x0) rfl (Lw.m (vI y6) rfl (Lw.m (vI y7) rfl ?_)))))
     obtain ⟨q28, e29, hm⟩ := ob hm
     refine Lw.r rfl (R.ss e29 rfl (.inr rfl) (.inr rfl)) (Lw.t rfl (T.bs 3 [vS q28] (cs := [vS q28]) rfl rfl (bsv rfl)) ?_)
     rintro _ _ ⟨g30, W30, rfl, rfl, l30, b30⟩
     obtain ⟨q33, e34, hm⟩ := ob hm
     refine Lw.t rfl (T.app1S (α := Str) (K' := []) (o16.up l30 rfl) b30 (rdS _) rfl rfl e34) ?_
     rintro v35 _ ⟨W35, rfl, l35, o35⟩
     refine Lw.g v35 rfl (Lw.nil (Cw.region (Lw.m (vI y7) rfl (Lw.add rfl (Lw.g (vI (w64 (y7 + 1))) rfl (Lw.nil (⟨?_, ⟨q33, w64 (y7 + 1), v35, W35, rfl, ((l30.sub rfl).trans l35), rfl, o35, hm⟩⟩)))))))
     iterate 16 (refine .u ?_)
     exact Agree.refl _
    ·replace hm := bf hm hc27
     refine Cw.skip (⟨?_, ⟨y3, y6, v4, W13, rfl, Le.refl _ _, rfl, o16, hm⟩⟩)
     iterate 5 (refine .u ?_)
     exact Agree.refl _
  ·replace hm := bf hm hc17
   refine Cw.exit ?_
   rw [hK9] at hm
   refine Cw.seq (Cw.region (Lw.m v4 rfl (Lw.m (vS x0) rfl (Lw.m (vI y6) rfl ?_))))
   obtain ⟨q38, e39, hm⟩ := ob hm
   refine Lw.r rfl (R.ss e39 rfl (.inr rfl) (.inl ⟨rfl, rfl⟩)) (Lw.t rfl (T.bs 4 [vS q38] (cs := [vS q38]) rfl rfl (bsv rfl)) ?_)
   rintro _ _ ⟨g40, W40, rfl, rfl, l40, b40⟩
   have a41 := a15.n l40
   obtain ⟨q43, e44, hm⟩ := ob hm
   refine Lw.t rfl (T.app1S (α := Str) (K' := []) (o16.up l40 rfl) b40 (rdS _) rfl rfl e44) ?_
   rintro v45 _ ⟨W45, rfl, l45, o45⟩
   have a46 := a41.t l45 rfl
   refine Lw.g v45 rfl (Lw.nil ?_)
   cases hm
   exact Cw.ret (ret1 rfl (Res.mk a46 ⟨v45, rfl, o45.s.sub rfl rfl⟩))
 ·refine Cw.region (Lw.m (vI y7) rfl (Lw.m (vS x0) rfl (Lw.r rfl (R.lenS rfl) (Lw.lt rfl (Lw.m (vB (decide ((y7 : Int) < ((x0.length : Int) : Int)))) rfl (bsplit (decide ((y7 : Int) < ((x0.length : Int) : Int))) (fun hc48 => ?_) (fun hc48 => ?_)))))))
  ·replace hm := bt hm hc48
   refine Lw.wa hc48 rfl (Lw.m v4 rfl (Lw.wa hc48 rfl (Lw.ln y3 o5.rd rfl (Lw.wa hc48 rfl (Lw.m (vI x2) rfl (Lw.wa hc48 rfl (Lw.lt rfl (Lw.p hc48 (vB (decide (((y3.length : Int) : Int) < (x2 : Int)))) rfl (Lw.nil (⟨?_, ⟨decide (((y3.length : Int) : Int) < (x2 : Int)), W8, rfl, Le.refl _ _, rfl, hm⟩⟩))))))))))
   iterate 10 (refine .u ?_)
   exact Agree.refl _
  ·replace hm := bf hm hc48
   refine Lw.ps hc48 rfl (Lw.ps hc48 rfl (Lw.ps hc48 rfl (Lw.ps hc48 rfl (Lw.p hc48 (vB false) rfl (Lw.nil (⟨?_, ⟨false, W8, rfl, Le.refl _ _, rfl, hm⟩⟩))))))
   iterate 10 (refine .u ?_)
   exact Agree.refl _

theorem p70 {W : CW} {K : List Nat} {x0 : Str} {x1 : Byte} {x2 : Int} {k0 : Nat} {r : (List Str)}  (hm : Vm.spec_l1Cut x0 x1 x2 = some r) : CallR Tryz.prog 70 [vS x0, .int .u8 (UInt8.toNat x1 : Int), vI x2].toArray W.w (Res W [] fun W' v => ∃ (u0 : Value), v = u0 ∧ Ow W' k0 [] [u0] r) :=
 (c70 (V := W.view K [])  hm).ad (fk k0) fun _ _ ⟨u0, e, f0⟩ => ⟨u0, e, f0.back (fk_LL _)⟩

theorem c61 {V : CW} {x0 : Str} {r : Bool}  (hm : Vm.spec_l4Path x0 = some r) : CallR Tryz.prog 61 [vS x0].toArray V.w (Res V LL fun Wf v => v = vB r) := by
 unfold Vm.spec_l4Path at hm
 obtain ⟨W0, hW0⟩ : ∃ W, W = V := ⟨V, rfl⟩
 subst hW0
 refine CallR.of Tryz.func61 rfl rfl rfl rfl (Cw.seq (Cw.region (Lw.g (vB false) rfl (Lw.nil (Cw.seq (Cw.region (Lw.m (vS x0) rfl ?_)))))))
 obtain ⟨z1, e2, hm⟩ := ob hm
 refine Lw.t rfl (T.call rfl (p70 (K := [0]) (k0 := 2) (x1 := (UInt8.ofNatLT 47 (by decide) : Byte))  e2)) ?_
 rintro v0_3 _ ⟨W3, rfl, l3, ⟨_, rfl, f3_0⟩⟩
 have a4 := l3.o
 refine Lw.g v0_3 rfl (Lw.nil (Cw.seq (Cw.seq (Cw.region (Lw.g (vI 0) rfl (Lw.nil (Cw.block ?_)))))))
 obtain ⟨K8, hK8, hm⟩ := jn_e hm
 refine Cw.loop 7 18 [2, 4] (fun m l w => ∃ (y5 : Bool) (y6 : Int) (W7 : CW), W7.w = w ∧ Le [] W3 W7 ∧ l = [vB y5, vI y6] ∧ Vm.spec_l4Path_l1 z1 K8 m y5 y6 = some r) (((z1.length : Int) - 0).toNat + 1) ⟨false, 0, W3, rfl, Le.refl _ _, rfl, hm⟩ ?_
 rintro m9 _ _ σ ⟨y5, y6, W7, rfl, l7, rfl, hm⟩
 obtain _ | m9 := m9
 ·cases hm
 unfold Vm.spec_l4Path_l1 at hm
 have a10 := a4.n l7
 have o11 := f3_0.up l7 rfl
 refine Cw.seq (Cw.seq (Cw.region (Lw.m (vI y6) rfl (Lw.m v0_3 rfl (Lw.ln z1 o11.rd rfl (Lw.lt rfl (Lw.nil (Cw.cond (b := decide ((y6 : Int) < ((z1.length : Int) : Int))) rfl (fun hc12 => ?_) (fun hc12 => ?_)))))))))
 ·replace hm := bt hm hc12
  refine Cw.skip (Cw.seq (Cw.block (Cw.seq (Cw.region (Lw.m v0_3 rfl (Lw.m (vI y6) rfl ?_))))))
  obtain ⟨u13, e14, hm⟩ := ob hm
  refine Lw.r rfl (R.ix (α := Str) o11.rd e14 rfl rfl rfl) (Lw.r rfl (R.ld rfl rfl (o11.rd.at_ e14).str) ?_)
  obtain ⟨z15, e16, hm⟩ := ob hm
  refine Lw.t rfl (T.call rfl (p51 (K := [0])   e16)) ?_
  rintro _ _ ⟨W17, rfl, l17, rfl⟩
  have a18 := a10.n l17
  refine Lw.r rfl (R.not rfl) (Lw.nil (Cw.cond (b := (!z15)) rfl (fun hc20 => ?_) (fun hc20 => ?_)))
  ·replace hm := bt hm hc20
   refine Cw.seq (Cw.region (Lw.g (vB false) rfl (Lw.nil ?_)))
   cases hm
   exact Cw.ret (ret1 rfl (Res.mk a18 rfl))
  ·replace hm := bf hm hc20
   refine Cw.skip (Cw.region (Lw.m (vI y6) rfl (Lw.add rfl (Lw.g (vI (w64 (y6 + 1))) rfl (Lw.nil (⟨?_, m9, Nat.lt_succ_self m9, ⟨y5, w64 (y6 + 1), W17, rfl, (l7.trans l17), rfl, hm⟩⟩))))))
   iterate 15 (refine .u ?_)
   exact Agree.base
 ·replace hm := bf hm hc12
  refine Cw.exit ?_
  rw [hK8] at hm
  refine Cw.seq (Cw.region (Lw.m v0_3 rfl (Lw.ln z1 o11.rd rfl (Lw.le rfl (Lw.g (vB (decide (((z1.length : Int) : Int) ≤ (3 : Int)))) rfl (Lw.nil ?_))))))
  cases hm
  exact Cw.ret (ret1 rfl (Res.mk a10 rfl))

theorem p61 {W : CW} {K : List Nat} {x0 : Str} {r : Bool}  (hm : Vm.spec_l4Path x0 = some r) : CallR Tryz.prog 61 [vS x0].toArray W.w (Res W [] fun W' v => v = vB r) :=
 (c61 (V := W.view K [])  hm).ad (fk 0) fun _ _ e => e

theorem c71 {V : CW} {x0 : Str} {r : Bool}  (hm : Vm.spec_l1Line x0 = some r) : CallR Tryz.prog 71 [vS x0].toArray V.w (Res V LL fun Wf v => v = vB r) := by
 unfold Vm.spec_l1Line at hm
 obtain ⟨W0, hW0⟩ : ∃ W, W = V := ⟨V, rfl⟩
 subst hW0
 refine CallR.of Tryz.func71 rfl rfl rfl rfl (Cw.seq (Cw.region (Lw.g (vB false) rfl (Lw.nil (Cw.seq (Cw.seq (Cw.region (Lw.g (vI 0) rfl (Lw.nil (Cw.block ?_))))))))))
 obtain ⟨K4, hK4, hm⟩ := jn_e hm
 refine Cw.loop 4 19 [2, 3] (fun m l w => ∃ (y1 : Bool) (y2 : Int) (W3 : CW), W3.w = w ∧ Le [] W0 W3 ∧ l = [vB y1, vI y2] ∧ Vm.spec_l1Line_l1 x0 K4 m y1 y2 = some r) (((x0.length : Int) - 0).toNat + 1) ⟨false, 0, W0, rfl, Le.refl _ _, rfl, hm⟩ ?_
 rintro m5 _ _ σ ⟨y1, y2, W3, rfl, l3, rfl, hm⟩
 obtain _ | m5 := m5
 ·cases hm
 unfold Vm.spec_l1Line_l1 at hm
 have a6 := l3.o
 refine Cw.seq (Cw.seq (Cw.region (Lw.m (vI y2) rfl (Lw.m (vS x0) rfl (Lw.r rfl (R.lenS rfl) (Lw.lt rfl (Lw.nil (Cw.cond (b := decide ((y2 : Int) < ((x0.length : Int) : Int))) rfl (fun hc7 => ?_) (fun hc7 => ?_)))))))))
 ·replace hm := bt hm hc7
  refine Cw.skip (Cw.seq (Cw.block ?_))
  obtain ⟨K10, hK10, hm⟩ := jn_e hm
  refine Cw.join 10 19 [19] (fun l w => ∃ (y8 : Bool) (W9 : CW), W9.w = w ∧ Le [] W3 W9 ∧ l = [vB y8] ∧ K10 y8 = some r) ?_ ?_
  ·rintro _ _ σ ⟨y8, W9, rfl, l9, rfl, hm⟩
   rw [hK10] at hm
   have a11 := a6.n l9
   refine Cw.cond (b := y8) rfl (fun hc12 => ?_) (fun hc12 => ?_)
   ·replace hm := bt hm hc12
    refine Cw.seq (Cw.region (Lw.g (vB false) rfl (Lw.nil ?_)))
    cases hm
    exact Cw.ret (ret1 rfl (Res.mk a11 rfl))
   ·replace hm := bf hm hc12
    refine Cw.skip (Cw.region (Lw.m (vI y2) rfl (Lw.add rfl (Lw.g (vI (w64 (y2 + 1))) rfl (Lw.nil (⟨?_, m5, Nat.lt_succ_self m5, ⟨y1, w64 (y2 + 1), W9, rfl, (l3.trans l9), rfl, hm⟩⟩))))))
    iterate 4 (refine .u ?_)
    refine Agree.ov0 rfl ?_
    iterate 6 (refine .u ?_)
    exact Agree.base
  ·refine Cw.region (Lw.m (vS x0) rfl (Lw.m (vI y2) rfl ?_))
   obtain ⟨u13, e14, hm⟩ := ob hm
   refine Lw.r rfl (R.chm e14 rfl rfl) (Lw.lt rfl (Lw.m (vB (decide (((UInt8.toNat u13 : Int) : Int) < (32 : Int)))) rfl (bsplit (decide (((UInt8.toNat u13 : Int) : Int) < (32 : Int))) (fun hc15 => ?_) (fun hc15 => ?_))))
   ·replace hm := bt hm hc15
    refine Lw.ps hc15 rfl (Lw.ps hc15 rfl (Lw.ps hc15 rfl (Lw.ps hc15 rfl (Lw.p hc15 (vB true) rfl (Lw.nil (⟨?_, ⟨true, W3, rfl, Le.refl _ _, rfl, hm⟩⟩))))))
    iterate 10 (refine .u ?_)
    exact Agree.refl _
   ·replace hm := bf hm hc15
    refine Lw.wa hc15 rfl (Lw.m (vS x0) rfl (Lw.wa hc15 rfl (Lw.m (vI y2) rfl (Lw.wa hc15 rfl ?_))))
    obtain ⟨u16, e17, hm⟩ := ob hm
    refine Lw.r rfl (R.chm e17 rfl rfl) (Lw.wa hc15 rfl (Lw.gt rfl (Lw.p hc15 (vB (decide ((126 : Int) < ((UInt8.toNat u16 : Int) : Int)))) rfl (Lw.nil (⟨?_, ⟨decide ((126 : Int) < ((UInt8.toNat u16 : Int) : Int)), W3, rfl, Le.refl _ _, rfl, hm⟩⟩)))))
    iterate 10 (refine .u ?_)
    exact Agree.refl _
 ·replace hm := bf hm hc7
  refine Cw.exit ?_
  rw [hK4] at hm
  refine Cw.seq (Cw.region (Lw.m (vS x0) rfl (Lw.r rfl (R.lenS rfl) (Lw.le rfl (Lw.g (vB (decide (((x0.length : Int) : Int) ≤ (12 : Int)))) rfl (Lw.nil ?_))))))
  cases hm
  exact Cw.ret (ret1 rfl (Res.mk a6 rfl))

theorem p71 {W : CW} {K : List Nat} {x0 : Str} {r : Bool}  (hm : Vm.spec_l1Line x0 = some r) : CallR Tryz.prog 71 [vS x0].toArray W.w (Res W [] fun W' v => v = vB r) :=
 (c71 (V := W.view K [])  hm).ad (fk 0) fun _ _ e => e

theorem c62 {V : CW} {x0 : List Str} {v0_ : Value} {r : Bool} (h0 : Rd V [0] [v0_] x0) (hm : Vm.spec_l1Ok x0 = some r) : CallR Tryz.prog 62 [v0_].toArray V.w (Res V LL fun Wf v => v = vB r) := by
 unfold Vm.spec_l1Ok at hm
 obtain ⟨W0, hW0⟩ : ∃ W, W = V := ⟨V, rfl⟩
 subst hW0
 refine CallR.of Tryz.func62 rfl rfl rfl rfl (Cw.seq (Cw.region (Lw.g (vB false) rfl (Lw.nil (Cw.seq (Cw.seq (Cw.region (Lw.g (vI 0) rfl (Lw.nil (Cw.block ?_))))))))))
 obtain ⟨K4, hK4, hm⟩ := jn_e hm
 refine Cw.loop 4 15 [2, 3] (fun m l w => ∃ (y1 : Bool) (y2 : Int) (W3 : CW), W3.w = w ∧ Le [] W0 W3 ∧ l = [vB y1, vI y2] ∧ Vm.spec_l1Ok_l1 x0 K4 m y1 y2 = some r) (((x0.length : Int) - 0).toNat + 1) ⟨false, 0, W0, rfl, Le.refl _ _, rfl, hm⟩ ?_
 rintro m5 _ _ σ ⟨y1, y2, W3, rfl, l3, rfl, hm⟩
 obtain _ | m5 := m5
 ·cases hm
 unfold Vm.spec_l1Ok_l1 at hm
 have a6 := l3.o
 refine Cw.seq (Cw.seq (Cw.region ?_))
 have s7 := h0.ul a6
 refine Lw.m (vI y2) rfl (Lw.m v0_ rfl (Lw.ln x0 s7 rfl (Lw.lt rfl (Lw.nil (Cw.cond (b := decide ((y2 : Int) < ((x0.length : Int) : Int))) rfl (fun hc8 => ?_) (fun hc8 => ?_))))))
 ·replace hm := bt hm hc8
  refine Cw.skip (Cw.seq (Cw.block (Cw.seq (Cw.region (Lw.m v0_ rfl (Lw.m (vI y2) rfl ?_))))))
  obtain ⟨u9, e10, hm⟩ := ob hm
  refine Lw.r rfl (R.ix (α := Str) s7 e10 rfl rfl rfl) (Lw.r rfl (R.ld rfl rfl (s7.at_ e10).str) ?_)
  obtain ⟨z11, e12, hm⟩ := ob hm
  refine Lw.t rfl (T.call rfl (p71 (K := [0])   e12)) ?_
  rintro _ _ ⟨W13, rfl, l13, rfl⟩
  have a14 := a6.n l13
  refine Lw.r rfl (R.not rfl) (Lw.nil (Cw.cond (b := (!z11)) rfl (fun hc15 => ?_) (fun hc15 => ?_)))
  ·replace hm := bt hm hc15
   refine Cw.seq (Cw.region (Lw.g (vB false) rfl (Lw.nil ?_)))
   cases hm
   exact Cw.ret (ret1 rfl (Res.mk a14 rfl))
  ·replace hm := bf hm hc15
   refine Cw.skip (Cw.region (Lw.m (vI y2) rfl (Lw.add rfl (Lw.g (vI (w64 (y2 + 1))) rfl (Lw.nil (⟨?_, m5, Nat.lt_succ_self m5, ⟨y1, w64 (y2 + 1), W13, rfl, (l3.trans l13), rfl, hm⟩⟩))))))
   iterate 15 (refine .u ?_)
   exact Agree.base
 ·replace hm := bf hm hc8
  refine Cw.exit ?_
  rw [hK4] at hm
  refine Cw.seq (Cw.region (Lw.m v0_ rfl (Lw.ln x0 s7 rfl (Lw.le rfl (Lw.g (vB (decide (((x0.length : Int) : Int) ≤ (10 : Int)))) rfl (Lw.nil ?_))))))
  cases hm
  exact Cw.ret (ret1 rfl (Res.mk a6 rfl))

theorem p62 {W : CW} {K : List Nat} {x0 : List Str} {v0_ : Value} {r : Bool} (h0 : Rd W K [v0_] x0) (hm : Vm.spec_l1Ok x0 = some r) : CallR Tryz.prog 62 [v0_].toArray W.w (Res W [] fun W' v => v = vB r) :=
 (c62 (V := W.view K []) (h0.view _) hm).ad (fk 0) fun _ _ e => e

theorem c76 {V : CW} {x0 : List Str} {v0_ : Value} {r : Bool} (h0 : Rd V [0] [v0_] x0) (hm : Vm.spec_l19Lines x0 = some r) : CallR Tryz.prog 76 [v0_].toArray V.w (Res V LL fun Wf v => v = vB r) := by
 unfold Vm.spec_l19Lines at hm
 obtain ⟨W0, hW0⟩ : ∃ W, W = V := ⟨V, rfl⟩
 subst hW0
 refine CallR.of Tryz.func76 rfl rfl rfl rfl (Cw.seq (Cw.region (Lw.g (vB false) rfl (Lw.nil (Cw.seq (Cw.seq (Cw.region (Lw.g (vI 0) rfl (Lw.nil (Cw.block ?_))))))))))
 obtain ⟨K5, hK5, hm⟩ := jn_e hm
 refine Cw.loop 5 26 [2, 3, 4] (fun m l w => ∃ (y1 : Bool) (y2 : Int) (j3 : Value) (W4 : CW), W4.w = w ∧ Le [] W0 W4 ∧ l = [vB y1, vI y2, j3] ∧ Vm.spec_l19Lines_l1 x0 K5 m y1 y2 = some r) (((x0.length : Int) - 0).toNat + 1) ⟨false, 0, undef, W0, rfl, Le.refl _ _, rfl, hm⟩ ?_
 rintro m6 _ _ σ ⟨y1, y2, j3, W4, rfl, l4, rfl, hm⟩
 obtain _ | m6 := m6
 ·cases hm
 unfold Vm.spec_l19Lines_l1 at hm
 have a7 := l4.o
 refine Cw.seq (Cw.seq (Cw.region (Lw.m (vI y2) rfl (Lw.m v0_ rfl (Lw.ln x0 (h0.ul a7) rfl (Lw.lt rfl (Lw.nil (Cw.cond (b := decide ((y2 : Int) < ((x0.length : Int) : Int))) rfl (fun hc9 => ?_) (fun hc9 => ?_)))))))))
 ·replace hm := bt hm hc9
  refine Cw.skip (Cw.seq (Cw.block (Cw.seq (Cw.region (Lw.g (vI 0) rfl (Lw.nil (Cw.block ?_)))))))
  obtain ⟨K13, hK13, hm⟩ := jn_e hm
  refine Cw.loop 11 26 [2, 4] (fun m l w => ∃ (y10 : Bool) (y11 : Int) (W12 : CW), W12.w = w ∧ Le [] W4 W12 ∧ l = [vB y10, vI y11] ∧ Vm.spec_l19Lines_l2 x0 y2 K13 m y10 y11 = some r) (((gi x0 y2).getD []).length + 1) ⟨y1, 0, W4, rfl, Le.refl _ _, rfl, hm⟩ ?_
  rintro m14 _ _ σ ⟨y10, y11, W12, rfl, l12, rfl, hm⟩
  obtain _ | m14 := m14
  ·cases hm
  unfold Vm.spec_l19Lines_l2 at hm
  have a15 := a7.n l12
  refine Cw.seq (Cw.seq (Cw.region (Lw.m (vI y11) rfl (Lw.m v0_ rfl (Lw.m (vI y2) rfl ?_)))))
  obtain ⟨u16, e17, hm⟩ := ob hm
  have s18 := h0.ul a15
  refine Lw.r rfl (R.ix (α := Str) s18 e17 rfl rfl rfl) (Lw.r rfl (R.ld rfl rfl (s18.at_ e17).str) (Lw.r rfl (R.lenS rfl) (Lw.lt rfl (Lw.nil (Cw.cond (b := decide ((y11 : Int) < ((u16.length : Int) : Int))) rfl (fun hc19 => ?_) (fun hc19 => ?_))))))
  ·replace hm := bt hm hc19
   refine Cw.skip (Cw.seq (Cw.block (Cw.seq (Cw.region (Lw.m v0_ rfl (Lw.m (vI y2) rfl ?_))))))
   obtain ⟨u20, e21, hm⟩ := ob hm
   refine Lw.r rfl (R.ix (α := Str) s18 e21 rfl rfl rfl) (Lw.r rfl (R.ld rfl rfl (s18.at_ e21).str) (Lw.m (vI y11) rfl ?_))
   obtain ⟨u22, e23, hm⟩ := ob hm
   refine Lw.r rfl (R.chm e23 rfl rfl) (Lw.eq rfl (Lw.nil (Cw.cond (b := (((UInt8.toNat u22 : Int) : Int) == (124 : Int))) rfl (fun hc24 => ?_) (fun hc24 => ?_))))
   ·replace hm := bt hm hc24
    refine Cw.seq (Cw.region (Lw.g (vB false) rfl (Lw.nil ?_)))
    cases hm
    exact Cw.ret (ret1 rfl (Res.mk a15 rfl))
   ·replace hm := bf hm hc24
    refine Cw.skip (Cw.region (Lw.m (vI y11) rfl (Lw.add rfl (Lw.g (vI (w64 (y11 + 1))) rfl (Lw.nil (⟨?_, m14, Nat.lt_succ_self m14, ⟨y10, w64 (y11 + 1), W12, rfl, l12, rfl, hm⟩⟩))))))
    iterate 19 (refine .u ?_)
    exact Agree.base
  ·replace hm := bf hm hc19
   refine Cw.exit ?_
   rw [hK13] at hm
   refine Cw.region (Lw.m (vI y2) rfl (Lw.add rfl (Lw.g (vI (w64 (y2 + 1))) rfl (Lw.nil (⟨?_, m6, Nat.lt_succ_self m6, ⟨y10, w64 (y2 + 1), vI y11, W12, rfl, (l4.trans l12), rfl, hm⟩⟩)))))
   iterate 12 (refine .u ?_)
   refine Agree.ov0 rfl ?_
   iterate 8 (refine .u ?_)
   exact Agree.base
 ·replace hm := bf hm hc9
  refine Cw.exit ?_
  rw [hK5] at hm
  refine Cw.seq (Cw.region (Lw.m v0_ rfl ?_))
  obtain ⟨z25, e26, hm⟩ := ob hm
  refine Lw.t rfl (T.call rfl (p62 (K := [0])  (h0.ul a7) e26)) ?_
  rintro _ _ ⟨W27, rfl, l27, rfl⟩
  have a28 := a7.n l27
  refine Lw.g (vB z25) rfl (Lw.nil ?_)
  cases hm
  exact Cw.ret (ret1 rfl (Res.mk a28 rfl))

theorem p76 {W : CW} {K : List Nat} {x0 : List Str} {v0_ : Value} {r : Bool} (h0 : Rd W K [v0_] x0) (hm : Vm.spec_l19Lines x0 = some r) : CallR Tryz.prog 76 [v0_].toArray W.w (Res W [] fun W' v => v = vB r) :=
 (c76 (V := W.view K []) (h0.view _) hm).ad (fk 0) fun _ _ e => e

theorem c67 {V : CW} {x0 : Vm.Op} {v0_6_ : Value} {r : Bool} (h0 : Rd V [0] [vI x0.Kind, vS x0.Branch, vS x0.Who, vS x0.Path, vS x0.To, vI x0.At, v0_6_] x0) (hm : Vm.spec_l19Ok x0 = some r) : CallR Tryz.prog 67 [.agg [vI x0.Kind, vS x0.Branch, vS x0.Who, vS x0.Path, vS x0.To, vI x0.At, v0_6_].toArray].toArray V.w (Res V LL fun Wf v => v = vB r) := by
 unfold Vm.spec_l19Ok at hm
 obtain ⟨w0_0, he0, h0_6⟩ := Op.split h0
 simp only [List.cons.injEq, and_true, true_and] at he0
 obtain rfl := he0
 obtain ⟨W0, hW0⟩ : ∃ W, W = V := ⟨V, rfl⟩
 subst hW0
 refine CallR.of Tryz.func67 rfl rfl rfl rfl (Cw.seq (Cw.region (Lw.t rfl (T.box 2 (v := .agg [vI x0.Kind, vS x0.Branch, vS x0.Who, vS x0.Path, vS x0.To, vI x0.At, v0_6_].toArray) (cs := [vI x0.Kind, vS x0.Branch, vS x0.Who, vS x0.Path, vS x0.To, vI x0.At, v0_6_]) rfl rfl) ?_)))
 rintro _ _ ⟨g1, W1, rfl, rfl, l1, b1⟩
 have a2 := l1.o
 refine Lw.g (vB false) rfl (Lw.nil (Cw.seq ?_))
 obtain ⟨K5, hK5, hm⟩ := jn_e hm
 refine Cw.join 3 12 [12] (fun l w => ∃ (y3 : Bool) (W4 : CW), W4.w = w ∧ Le [] W1 W4 ∧ l = [vB y3] ∧ K5 y3 = some r) ?_ ?_
 ·rintro _ _ σ ⟨y3, W4, rfl, l4, rfl, hm⟩
  rw [hK5] at hm
  have a6 := a2.n l4
  have b7 := b1.up l4 rfl
  refine Cw.cond (b := y3) rfl (fun hc8 => ?_) (fun hc8 => ?_)
  ·replace hm := bt hm hc8
   refine Cw.seq (Cw.region (Lw.g (vB false) rfl (Lw.nil ?_)))
   cases hm
   exact Cw.ret (ret1 rfl (Res.mk a6 rfl))
  ·replace hm := bf hm hc8
   refine Cw.skip (Cw.seq (Cw.seq (Cw.region (Lw.fa rfl (Lw.r rfl (R.ld (v := vI x0.Kind) rfl rfl (b7.cell rfl)) (Lw.nil (Cw.block (Cw.seq (Cw.region (Lw.eq rfl (Lw.g (vB ((x0.Kind : Int) == (1 : Int))) rfl (Lw.nil (Cw.cond (b := ((x0.Kind : Int) == (1 : Int))) rfl (fun hc9 => ?_) (fun hc9 => ?_))))))))))))))
   ·replace hm := bt hm hc9
    obtain ⟨K12, hK12, hm⟩ := jn_e hm
    refine Cw.join 17 28 [2] (fun l w => ∃ (y10 : Bool) (W11 : CW), W11.w = w ∧ Le [] W4 W11 ∧ l = [vB y10] ∧ K12 y10 = some r) ?_ ?_
    ·rintro _ _ σ ⟨y10, W11, rfl, l11, rfl, hm⟩
     rw [hK12] at hm
     have a13 := a6.n l11
     cases hm
     exact Cw.ret (ret1 rfl (Res.mk a13 rfl))
    ·refine Cw.region (Lw.r rfl (R.lda (cs := [vI x0.Kind, vS x0.Branch, vS x0.Who, vS x0.Path, vS x0.To, vI x0.At, v0_6_]) b7.cells rfl rfl) ?_)
     obtain ⟨z16, e17, hm⟩ := ob hm
     refine Lw.t rfl (T.call rfl (p75 (K := [0])  (Op.rd (K := [0]) x0.Kind x0.Branch x0.Who x0.Path x0.To x0.At x0.Text (h0_6.ul a6)) e17)) ?_
     rintro _ _ ⟨W18, rfl, l18, rfl⟩
     have a19 := a6.n l18
     refine Lw.m (vB z16) rfl (bsplit z16 (fun hc21 => ?_) (fun hc21 => ?_))
     ·replace hm := bt hm hc21
      refine Lw.wa hc21 rfl (Lw.fa rfl (Lw.wa hc21 rfl (Lw.r rfl (R.ld (v := vS x0.Path) rfl rfl ((b7.up l18 rfl).cell rfl)) (Lw.wa hc21 rfl ?_))))
      obtain ⟨z22, e23, hm⟩ := ob hm
      refine Lw.t rfl (T.call rfl (p61 (K := [0])   e23)) ?_
      rintro _ _ ⟨W24, rfl, l24, rfl⟩
      have a25 := a19.n l24
      refine Lw.p hc21 (vB z22) rfl (Lw.m (vB z22) rfl (bsplit z22 (fun hc27 => ?_) (fun hc27 => ?_)))
      ·replace hm := bt hm hc27
       refine Lw.wa hc27 rfl (Lw.fa rfl (Lw.wa hc27 rfl (Lw.r rfl (R.ld (v := v0_6_) rfl rfl (((b7.up l18 rfl).up l24 rfl).cell rfl)) (Lw.wa hc27 rfl ?_))))
       obtain ⟨z29, e30, hm⟩ := ob hm
       refine Lw.t rfl (T.call rfl (p76 (K := [0])  (h0_6.ul a25) e30)) ?_
       rintro _ _ ⟨W31, rfl, l31, rfl⟩
       refine Lw.p hc27 (vB z29) rfl (Lw.g (vB z29) rfl (Lw.nil (⟨?_, ⟨z29, W31, rfl, (l18.trans (l24.trans l31)), rfl, hm⟩⟩)))
       iterate 13 (refine .u ?_)
       exact Agree.refl _
      ·replace hm := bf hm hc27
       refine Lw.ps hc27 rfl (Lw.ps hc27 rfl (Lw.ps hc27 rfl (Lw.p hc27 (vB false) rfl (Lw.g (vB false) rfl (Lw.nil (⟨?_, ⟨false, W24, rfl, (l18.trans l24), rfl, hm⟩⟩))))))
       iterate 13 (refine .u ?_)
       exact Agree.refl _
     ·replace hm := bf hm hc21
      refine Lw.ps hc21 rfl (Lw.ps hc21 rfl (Lw.ps hc21 rfl (Lw.p hc21 (vB false) rfl (Lw.m (vB false) rfl (Lw.ps rfl rfl (Lw.ps rfl rfl (Lw.ps rfl rfl (Lw.p rfl (vB false) rfl (Lw.g (vB false) rfl (Lw.nil (⟨?_, ⟨false, W18, rfl, l18, rfl, hm⟩⟩)))))))))))
      iterate 13 (refine .u ?_)
      exact Agree.refl _
   ·replace hm := bf hm hc9
    refine Cw.seq (Cw.region (Lw.eq rfl (Lw.g (vB ((x0.Kind : Int) == (2 : Int))) rfl (Lw.nil (Cw.cond (b := ((x0.Kind : Int) == (2 : Int))) rfl (fun hc34 => ?_) (fun hc34 => ?_))))))
    ·replace hm := bt hm hc34
     obtain ⟨K37, hK37, hm⟩ := jn_e hm
     refine Cw.join 31 37 [2] (fun l w => ∃ (y35 : Bool) (W36 : CW), W36.w = w ∧ Le [] W4 W36 ∧ l = [vB y35] ∧ K37 y35 = some r) ?_ ?_
     ·rintro _ _ σ ⟨y35, W36, rfl, l36, rfl, hm⟩
      rw [hK37] at hm
      have a38 := a6.n l36
      cases hm
      exact Cw.ret (ret1 rfl (Res.mk a38 rfl))
     ·refine Cw.region (Lw.r rfl (R.lda (cs := [vI x0.Kind, vS x0.Branch, vS x0.Who, vS x0.Path, vS x0.To, vI x0.At, v0_6_]) b7.cells rfl rfl) ?_)
      obtain ⟨z41, e42, hm⟩ := ob hm
      refine Lw.t rfl (T.call rfl (p75 (K := [0])  (Op.rd (K := [0]) x0.Kind x0.Branch x0.Who x0.Path x0.To x0.At x0.Text (h0_6.ul a6)) e42)) ?_
      rintro _ _ ⟨W43, rfl, l43, rfl⟩
      refine Lw.m (vB z41) rfl (bsplit z41 (fun hc46 => ?_) (fun hc46 => ?_))
      ·replace hm := bt hm hc46
       refine Lw.wa hc46 rfl (Lw.fa rfl (Lw.wa hc46 rfl (Lw.r rfl (R.ld (v := vS x0.Path) rfl rfl ((b7.up l43 rfl).cell rfl)) (Lw.wa hc46 rfl ?_))))
       obtain ⟨z47, e48, hm⟩ := ob hm
       refine Lw.t rfl (T.call rfl (p61 (K := [0])   e48)) ?_
       rintro _ _ ⟨W49, rfl, l49, rfl⟩
       refine Lw.p hc46 (vB z47) rfl (Lw.g (vB z47) rfl (Lw.nil (⟨?_, ⟨z47, W49, rfl, (l43.trans l49), rfl, hm⟩⟩)))
       iterate 8 (refine .u ?_)
       exact Agree.refl _
      ·replace hm := bf hm hc46
       refine Lw.ps hc46 rfl (Lw.ps hc46 rfl (Lw.ps hc46 rfl (Lw.p hc46 (vB false) rfl (Lw.g (vB false) rfl (Lw.nil (⟨?_, ⟨false, W43, rfl, l43, rfl, hm⟩⟩))))))
       iterate 8 (refine .u ?_)
       exact Agree.refl _
    ·replace hm := bf hm hc34
     refine Cw.seq (Cw.region (Lw.eq rfl (Lw.g (vB ((x0.Kind : Int) == (3 : Int))) rfl (Lw.nil (Cw.cond (b := ((x0.Kind : Int) == (3 : Int))) rfl (fun hc52 => ?_) (fun hc52 => ?_))))))
     ·replace hm := bt hm hc52
      obtain ⟨K55, hK55, hm⟩ := jn_e hm
      refine Cw.join 40 51 [2] (fun l w => ∃ (y53 : Bool) (W54 : CW), W54.w = w ∧ Le [] W4 W54 ∧ l = [vB y53] ∧ K55 y53 = some r) ?_ ?_
      ·rintro _ _ σ ⟨y53, W54, rfl, l54, rfl, hm⟩
       rw [hK55] at hm
       have a56 := a6.n l54
       cases hm
       exact Cw.ret (ret1 rfl (Res.mk a56 rfl))
      ·refine Cw.region (Lw.r rfl (R.lda (cs := [vI x0.Kind, vS x0.Branch, vS x0.Who, vS x0.Path, vS x0.To, vI x0.At, v0_6_]) b7.cells rfl rfl) ?_)
       obtain ⟨z59, e60, hm⟩ := ob hm
       refine Lw.t rfl (T.call rfl (p75 (K := [0])  (Op.rd (K := [0]) x0.Kind x0.Branch x0.Who x0.Path x0.To x0.At x0.Text (h0_6.ul a6)) e60)) ?_
       rintro _ _ ⟨W61, rfl, l61, rfl⟩
       refine Lw.m (vB z59) rfl (bsplit z59 (fun hc64 => ?_) (fun hc64 => ?_))
       ·replace hm := bt hm hc64
        refine Lw.wa hc64 rfl (Lw.fa rfl (Lw.wa hc64 rfl (Lw.r rfl (R.ld (v := vS x0.Path) rfl rfl ((b7.up l61 rfl).cell rfl)) (Lw.wa hc64 rfl ?_))))
        obtain ⟨z65, e66, hm⟩ := ob hm
        refine Lw.t rfl (T.call rfl (p61 (K := [0])   e66)) ?_
        rintro _ _ ⟨W67, rfl, l67, rfl⟩
        refine Lw.p hc64 (vB z65) rfl (Lw.m (vB z65) rfl (bsplit z65 (fun hc70 => ?_) (fun hc70 => ?_)))
        ·replace hm := bt hm hc70
         refine Lw.wa hc70 rfl (Lw.fa rfl (Lw.wa hc70 rfl (Lw.r rfl (R.ld (v := vS x0.To) rfl rfl (((b7.up l61 rfl).up l67 rfl).cell rfl)) (Lw.wa hc70 rfl ?_))))
         obtain ⟨z71, e72, hm⟩ := ob hm
         refine Lw.t rfl (T.call rfl (p61 (K := [0])   e72)) ?_
         rintro _ _ ⟨W73, rfl, l73, rfl⟩
         refine Lw.p hc70 (vB z71) rfl (Lw.g (vB z71) rfl (Lw.nil (⟨?_, ⟨z71, W73, rfl, (l61.trans (l67.trans l73)), rfl, hm⟩⟩)))
         iterate 13 (refine .u ?_)
         exact Agree.refl _
        ·replace hm := bf hm hc70
         refine Lw.ps hc70 rfl (Lw.ps hc70 rfl (Lw.ps hc70 rfl (Lw.p hc70 (vB false) rfl (Lw.g (vB false) rfl (Lw.nil (⟨?_, ⟨false, W67, rfl, (l61.trans l67), rfl, hm⟩⟩))))))
         iterate 13 (refine .u ?_)
         exact Agree.refl _
       ·replace hm := bf hm hc64
        refine Lw.ps hc64 rfl (Lw.ps hc64 rfl (Lw.ps hc64 rfl (Lw.p hc64 (vB false) rfl (Lw.m (vB false) rfl (Lw.ps rfl rfl (Lw.ps rfl rfl (Lw.ps rfl rfl (Lw.p rfl (vB false) rfl (Lw.g (vB false) rfl (Lw.nil (⟨?_, ⟨false, W61, rfl, l61, rfl, hm⟩⟩)))))))))))
        iterate 13 (refine .u ?_)
        exact Agree.refl _
     ·replace hm := bf hm hc52
      obtain ⟨K78, hK78, hm⟩ := jn_e hm
      refine Cw.join 52 54 [52] (fun l w => ∃ (y76 : Bool) (W77 : CW), W77.w = w ∧ Le [] W4 W77 ∧ l = [vB y76] ∧ K78 y76 = some r) ?_ ?_
      ·rintro _ _ σ ⟨y76, W77, rfl, l77, rfl, hm⟩
       rw [hK78] at hm
       have a79 := a6.n l77
       have b80 := b7.up l77 rfl
       refine Cw.cond (b := y76) rfl (fun hc81 => ?_) (fun hc81 => ?_)
       ·replace hm := bt hm hc81
        obtain ⟨K84, hK84, hm⟩ := jn_e hm
        refine Cw.join 55 61 [2] (fun l w => ∃ (y82 : Bool) (W83 : CW), W83.w = w ∧ Le [] W77 W83 ∧ l = [vB y82] ∧ K84 y82 = some r) ?_ ?_
        ·rintro _ _ σ ⟨y82, W83, rfl, l83, rfl, hm⟩
         rw [hK84] at hm
         have a85 := a79.n l83
         cases hm
         exact Cw.ret (ret1 rfl (Res.mk a85 rfl))
        ·refine Cw.region (Lw.r rfl (R.lda (cs := [vI x0.Kind, vS x0.Branch, vS x0.Who, vS x0.Path, vS x0.To, vI x0.At, v0_6_]) b80.cells rfl rfl) ?_)
         obtain ⟨z88, e89, hm⟩ := ob hm
         refine Lw.t rfl (T.call rfl (p75 (K := [0])  (Op.rd (K := [0]) x0.Kind x0.Branch x0.Who x0.Path x0.To x0.At x0.Text (h0_6.ul a79)) e89)) ?_
         rintro _ _ ⟨W90, rfl, l90, rfl⟩
         refine Lw.m (vB z88) rfl (bsplit z88 (fun hc93 => ?_) (fun hc93 => ?_))
         ·replace hm := bt hm hc93
          refine Lw.wa hc93 rfl (Lw.fa rfl (Lw.wa hc93 rfl (Lw.r rfl (R.ld (v := vS x0.To) rfl rfl ((b80.up l90 rfl).cell rfl)) (Lw.wa hc93 rfl ?_))))
          obtain ⟨z94, e95, hm⟩ := ob hm
          refine Lw.t rfl (T.call rfl (p51 (K := [0])   e95)) ?_
          rintro _ _ ⟨W96, rfl, l96, rfl⟩
          refine Lw.p hc93 (vB z94) rfl (Lw.g (vB z94) rfl (Lw.nil (⟨?_, ⟨z94, W96, rfl, (l90.trans l96), rfl, hm⟩⟩)))
          iterate 8 (refine .u ?_)
          exact Agree.refl _
         ·replace hm := bf hm hc93
          refine Lw.ps hc93 rfl (Lw.ps hc93 rfl (Lw.ps hc93 rfl (Lw.p hc93 (vB false) rfl (Lw.g (vB false) rfl (Lw.nil (⟨?_, ⟨false, W90, rfl, l90, rfl, hm⟩⟩))))))
          iterate 8 (refine .u ?_)
          exact Agree.refl _
       ·replace hm := bf hm hc81
        obtain ⟨K101, hK101, hm⟩ := jn_e hm
        refine Cw.join 62 64 [62] (fun l w => ∃ (y99 : Bool) (W100 : CW), W100.w = w ∧ Le [] W77 W100 ∧ l = [vB y99] ∧ K101 y99 = some r) ?_ ?_
        ·rintro _ _ σ ⟨y99, W100, rfl, l100, rfl, hm⟩
         rw [hK101] at hm
         have a102 := a79.n l100
         refine Cw.cond (b := y99) rfl (fun hc104 => ?_) (fun hc104 => ?_)
         ·replace hm := bt hm hc104
          obtain ⟨K107, hK107, hm⟩ := jn_e hm
          refine Cw.join 65 71 [2] (fun l w => ∃ (y105 : Bool) (W106 : CW), W106.w = w ∧ Le [] W100 W106 ∧ l = [vB y105] ∧ K107 y105 = some r) ?_ ?_
          ·rintro _ _ σ ⟨y105, W106, rfl, l106, rfl, hm⟩
           rw [hK107] at hm
           have a108 := a102.n l106
           cases hm
           exact Cw.ret (ret1 rfl (Res.mk a108 rfl))
          ·refine Cw.region (Lw.r rfl (R.lda (cs := [vI x0.Kind, vS x0.Branch, vS x0.Who, vS x0.Path, vS x0.To, vI x0.At, v0_6_]) (b80.up l100 rfl).cells rfl rfl) ?_)
           obtain ⟨z111, e112, hm⟩ := ob hm
           refine Lw.t rfl (T.call rfl (p75 (K := [0])  (Op.rd (K := [0]) x0.Kind x0.Branch x0.Who x0.Path x0.To x0.At x0.Text (h0_6.ul a102)) e112)) ?_
           rintro _ _ ⟨W113, rfl, l113, rfl⟩
           refine Lw.m (vB z111) rfl (bsplit z111 (fun hc116 => ?_) (fun hc116 => ?_))
           ·replace hm := bt hm hc116
            refine Lw.wa hc116 rfl (Lw.fa rfl (Lw.wa hc116 rfl (Lw.r rfl (R.ld (v := vI x0.At) rfl rfl (((b80.up l100 rfl).up l113 rfl).cell rfl)) (Lw.wa hc116 rfl ?_))))
            obtain ⟨z117, e118, hm⟩ := ob hm
            refine Lw.t rfl (T.call rfl (p31 (K := [0])   e118)) ?_
            rintro _ _ ⟨W119, rfl, l119, rfl⟩
            refine Lw.p hc116 (vB z117) rfl (Lw.g (vB z117) rfl (Lw.nil (⟨?_, ⟨z117, W119, rfl, (l113.trans l119), rfl, hm⟩⟩)))
            iterate 8 (refine .u ?_)
            exact Agree.refl _
           ·replace hm := bf hm hc116
            refine Lw.ps hc116 rfl (Lw.ps hc116 rfl (Lw.ps hc116 rfl (Lw.p hc116 (vB false) rfl (Lw.g (vB false) rfl (Lw.nil (⟨?_, ⟨false, W113, rfl, l113, rfl, hm⟩⟩))))))
            iterate 8 (refine .u ?_)
            exact Agree.refl _
         ·replace hm := bf hm hc104
          refine Cw.skip (Cw.seq (Cw.region (Lw.g (vB false) rfl (Lw.nil ?_))))
          cases hm
          exact Cw.ret (ret1 rfl (Res.mk a102 rfl))
        ·refine Cw.seq (Cw.region (Lw.eq rfl (Lw.g (vB ((x0.Kind : Int) == (6 : Int))) rfl (Lw.nil (Cw.cond (b := ((x0.Kind : Int) == (6 : Int))) rfl (fun hc122 => ?_) (fun hc122 => ?_))))))
         ·replace hm := bt hm hc122
          refine Cw.skip (⟨?_, ⟨((x0.Kind : Int) == (6 : Int)), W77, rfl, Le.refl _ _, rfl, hm⟩⟩)
          iterate 2 (refine .u ?_)
          exact Agree.refl _
         ·replace hm := bf hm hc122
          refine Cw.region (Lw.eq rfl (Lw.g (vB ((x0.Kind : Int) == (7 : Int))) rfl (Lw.nil (⟨?_, ⟨((x0.Kind : Int) == (7 : Int)), W77, rfl, Le.refl _ _, rfl, hm⟩⟩))))
          iterate 4 (refine .u ?_)
          exact Agree.refl _
      ·refine Cw.seq (Cw.region (Lw.eq rfl (Lw.g (vB ((x0.Kind : Int) == (4 : Int))) rfl (Lw.nil (Cw.cond (b := ((x0.Kind : Int) == (4 : Int))) rfl (fun hc123 => ?_) (fun hc123 => ?_))))))
       ·replace hm := bt hm hc123
        refine Cw.skip (⟨?_, ⟨((x0.Kind : Int) == (4 : Int)), W4, rfl, Le.refl _ _, rfl, hm⟩⟩)
        iterate 2 (refine .u ?_)
        exact Agree.refl _
       ·replace hm := bf hm hc123
        refine Cw.region (Lw.eq rfl (Lw.g (vB ((x0.Kind : Int) == (5 : Int))) rfl (Lw.nil (⟨?_, ⟨((x0.Kind : Int) == (5 : Int)), W4, rfl, Le.refl _ _, rfl, hm⟩⟩))))
        iterate 4 (refine .u ?_)
        exact Agree.refl _
 ·refine Cw.region (Lw.fa rfl (Lw.r rfl (R.ld (v := vS x0.Branch) rfl rfl (b1.cell rfl)) ?_))
  obtain ⟨z124, e125, hm⟩ := ob hm
  refine Lw.t rfl (T.call rfl (p51 (K := [0])   e125)) ?_
  rintro _ _ ⟨W126, rfl, l126, rfl⟩
  refine Lw.r rfl (R.not rfl) (Lw.m (vB (!z124)) rfl (bsplit (!z124) (fun hc129 => ?_) (fun hc129 => ?_)))
  ·replace hm := bt hm hc129
   refine Lw.ps hc129 rfl (Lw.ps hc129 rfl (Lw.ps hc129 rfl (Lw.ps hc129 rfl (Lw.p hc129 (vB true) rfl (Lw.nil (⟨?_, ⟨true, W126, rfl, l126, rfl, hm⟩⟩))))))
   iterate 10 (refine .u ?_)
   exact Agree.refl _
  ·replace hm := bf hm hc129
   refine Lw.wa hc129 rfl (Lw.fa rfl (Lw.wa hc129 rfl (Lw.r rfl (R.ld (v := vS x0.Who) rfl rfl ((b1.up l126 rfl).cell rfl)) (Lw.wa hc129 rfl ?_))))
   obtain ⟨z130, e131, hm⟩ := ob hm
   refine Lw.t rfl (T.call rfl (p51 (K := [0])   e131)) ?_
   rintro _ _ ⟨W132, rfl, l132, rfl⟩
   refine Lw.wa hc129 rfl (Lw.r rfl (R.not rfl) (Lw.p hc129 (vB (!z130)) rfl (Lw.nil (⟨?_, ⟨(!z130), W132, rfl, (l126.trans l132), rfl, hm⟩⟩))))
   iterate 10 (refine .u ?_)
   exact Agree.refl _

theorem p67 {W : CW} {K : List Nat} {x0 : Vm.Op} {v0_6_ : Value} {r : Bool} (h0 : Rd W K [vI x0.Kind, vS x0.Branch, vS x0.Who, vS x0.Path, vS x0.To, vI x0.At, v0_6_] x0) (hm : Vm.spec_l19Ok x0 = some r) : CallR Tryz.prog 67 [.agg [vI x0.Kind, vS x0.Branch, vS x0.Who, vS x0.Path, vS x0.To, vI x0.At, v0_6_].toArray].toArray W.w (Res W [] fun W' v => v = vB r) :=
 (c67 (V := W.view K []) (h0.view _) hm).ad (fk 0) fun _ _ e => e

theorem c77 {V : CW} {x0 : Vm.Repo} {v0_0_ : Value} {v0_1_ : Value} {x1 : Str} {r : Int} (h0 : Rd V [0] [v0_0_, v0_1_] x0) (hm : Vm.spec_l7At x0 x1 = some r) : CallR Tryz.prog 77 [.agg [v0_0_, v0_1_].toArray, vS x1].toArray V.w (Res V LL fun Wf v => v = vI r) := by
 unfold Vm.spec_l7At at hm
 obtain ⟨w0_0, w0_1, he0, h0_0, h0_1⟩ := Repo.split h0
 simp only [List.cons.injEq, and_true, true_and] at he0
 obtain ⟨rfl, rfl⟩ := he0
 obtain ⟨W0, hW0⟩ : ∃ W, W = V := ⟨V, rfl⟩
 subst hW0
 refine CallR.of Tryz.func77 rfl rfl rfl rfl (Cw.seq (Cw.region (Lw.t rfl (T.box 2 (v := .agg [v0_0_, v0_1_].toArray) (cs := [v0_0_, v0_1_]) rfl rfl) ?_)))
 rintro _ _ ⟨g1, W1, rfl, rfl, l1, b1⟩
 have a2 := l1.o
 refine Lw.g (vI 0) rfl (Lw.nil (Cw.seq (Cw.seq (Cw.region (Lw.g (vI 0) rfl (Lw.nil (Cw.block ?_)))))))
 obtain ⟨K6, hK6, hm⟩ := jn_e hm
 refine Cw.loop 6 26 [4, 5] (fun m l w => ∃ (y3 : Int) (y4 : Int) (W5 : CW), W5.w = w ∧ Le [] W1 W5 ∧ l = [vI y3, vI y4] ∧ Vm.spec_l7At_l1 x0 x1 K6 m y3 y4 = some r) (((x0.Heads.length : Int) - 0).toNat + 1) ⟨0, 0, W1, rfl, Le.refl _ _, rfl, hm⟩ ?_
 rintro m7 _ _ σ ⟨y3, y4, W5, rfl, l5, rfl, hm⟩
 obtain _ | m7 := m7
 ·cases hm
 unfold Vm.spec_l7At_l1 at hm
 have a8 := a2.n l5
 have b9 := b1.up l5 rfl
 refine Cw.seq (Cw.seq (Cw.region ?_))
 have s10 := h0_1.ul a8
 refine Lw.m (vI y4) rfl (Lw.fa rfl (Lw.r rfl (R.ld (v := v0_1_) rfl rfl (b9.cell rfl)) (Lw.ln x0.Heads s10 rfl (Lw.lt rfl (Lw.nil (Cw.cond (b := decide ((y4 : Int) < ((x0.Heads.length : Int) : Int))) rfl (fun hc11 => ?_) (fun hc11 => ?_)))))))
 ·replace hm := bt hm hc11
  refine Cw.skip (Cw.seq (Cw.block (Cw.seq (Cw.region (Lw.fa rfl (Lw.r rfl (R.ld (v := v0_1_) rfl rfl (b9.cell rfl)) (Lw.m (vI y4) rfl ?_)))))))
  obtain ⟨u12, e13, hm⟩ := ob hm
  refine Lw.r rfl (R.ix (α := Head) s10 e13 rfl rfl rfl) (Lw.fa rfl (Lw.r rfl (R.ld rfl rfl (Head.at0 (s10.at_ e13)).str) (Lw.m (vS x1) rfl (Lw.seq rfl (Lw.nil (Cw.cond (b := (u12.Name == x1)) rfl (fun hc14 => ?_) (fun hc14 => ?_)))))))
  ·replace hm := bt hm hc14
   refine Cw.seq (Cw.region (Lw.fa rfl (Lw.r rfl (R.ld (v := v0_1_) rfl rfl (b9.cell rfl)) (Lw.m (vI y4) rfl ?_))))
   obtain ⟨u15, e16, hm⟩ := ob hm
   refine Lw.r rfl (R.ix (α := Head) s10 e16 rfl rfl rfl) (Lw.fa rfl (Lw.r rfl (R.ld rfl rfl (Head.at1 (s10.at_ e16)).int) (Lw.g (vI u15.At) rfl (Lw.nil ?_))))
   cases hm
   exact Cw.ret (ret1 rfl (Res.mk a8 rfl))
  ·replace hm := bf hm hc14
   refine Cw.skip (Cw.region (Lw.m (vI y4) rfl (Lw.add rfl (Lw.g (vI (w64 (y4 + 1))) rfl (Lw.nil (⟨?_, m7, Nat.lt_succ_self m7, ⟨y3, w64 (y4 + 1), W5, rfl, l5, rfl, hm⟩⟩))))))
   iterate 18 (refine .u ?_)
   exact Agree.base
 ·replace hm := bf hm hc11
  refine Cw.exit ?_
  rw [hK6] at hm
  refine Cw.seq (Cw.region (Lw.g (vI (-1)) rfl (Lw.nil ?_)))
  cases hm
  exact Cw.ret (ret1 rfl (Res.mk a8 rfl))

theorem p77 {W : CW} {K : List Nat} {x0 : Vm.Repo} {v0_0_ : Value} {v0_1_ : Value} {x1 : Str} {r : Int} (h0 : Rd W K [v0_0_, v0_1_] x0) (hm : Vm.spec_l7At x0 x1 = some r) : CallR Tryz.prog 77 [.agg [v0_0_, v0_1_].toArray, vS x1].toArray W.w (Res W [] fun W' v => v = vI r) :=
 (c77 (V := W.view K []) (h0.view _) hm).ad (fk 0) fun _ _ e => e

theorem c63 {V : CW} {x0 : Str} {x1 : Str} {r : Bool}  (hm : Vm.spec_l4In x0 x1 = some r) : CallR Tryz.prog 63 [vS x0, vS x1].toArray V.w (Res V LL fun Wf v => v = vB r) := by
 unfold Vm.spec_l4In at hm
 obtain ⟨W0, hW0⟩ : ∃ W, W = V := ⟨V, rfl⟩
 subst hW0
 refine CallR.of Tryz.func63 rfl rfl rfl rfl (Cw.seq (Cw.region (Lw.g (vB false) rfl (Lw.nil ?_))))
 obtain ⟨K3, hK3, hm⟩ := jn_e hm
 refine Cw.join 5 24 [4] (fun l w => ∃ (y1 : Bool) (W2 : CW), W2.w = w ∧ Le [] W0 W2 ∧ l = [vB y1] ∧ K3 y1 = some r) ?_ ?_
 ·rintro _ _ σ ⟨y1, W2, rfl, l2, rfl, hm⟩
  rw [hK3] at hm
  have a4 := l2.o
  cases hm
  exact Cw.ret (ret1 rfl (Res.mk a4 rfl))
 ·refine Cw.region (Lw.m (vS x1) rfl (Lw.r rfl (R.lenS rfl) (Lw.m (vS x0) rfl (Lw.r rfl (R.lenS rfl) (Lw.gt rfl (Lw.m (vB (decide (((x0.length : Int) : Int) < ((x1.length : Int) : Int)))) rfl (bsplit (decide (((x0.length : Int) : Int) < ((x1.length : Int) : Int))) (fun hc5 => ?_) (fun hc5 => ?_))))))))
  ·replace hm := bt hm hc5
   refine Lw.wa hc5 rfl (Lw.m (vS x1) rfl (Lw.wa hc5 rfl (Lw.m (vS x0) rfl (Lw.wa hc5 rfl (Lw.r rfl (R.lenS rfl) (Lw.wa hc5 rfl ?_))))))
   obtain ⟨q6, e7, hm⟩ := ob hm
   refine Lw.r rfl (R.ss e7 rfl (.inl ⟨rfl, rfl⟩) (.inr rfl)) (Lw.wa hc5 rfl (Lw.m (vS x0) rfl (Lw.wa hc5 rfl (Lw.seq rfl (Lw.p hc5 (vB (q6 == x0)) rfl (Lw.m (vB (q6 == x0)) rfl (bsplit (q6 == x0) (fun hc8 => ?_) (fun hc8 => ?_))))))))
   ·replace hm := bt hm hc8
    refine Lw.wa hc8 rfl (Lw.m (vS x1) rfl (Lw.wa hc8 rfl (Lw.m (vS x0) rfl (Lw.wa hc8 rfl (Lw.r rfl (R.lenS rfl) (Lw.wa hc8 rfl ?_))))))
    obtain ⟨u9, e10, hm⟩ := ob hm
    refine Lw.r rfl (R.chm e10 rfl rfl) (Lw.wa hc8 rfl (Lw.eq rfl (Lw.p hc8 (vB (((UInt8.toNat u9 : Int) : Int) == (47 : Int))) rfl (Lw.g (vB (((UInt8.toNat u9 : Int) : Int) == (47 : Int))) rfl (Lw.nil (⟨?_, ⟨(((UInt8.toNat u9 : Int) : Int) == (47 : Int)), W0, rfl, Le.refl _ _, rfl, hm⟩⟩))))))
    iterate 21 (refine .u ?_)
    exact Agree.refl _
   ·replace hm := bf hm hc8
    refine Lw.ps hc8 rfl (Lw.ps hc8 rfl (Lw.ps hc8 rfl (Lw.ps hc8 rfl (Lw.ps hc8 rfl (Lw.p hc8 (vB false) rfl (Lw.g (vB false) rfl (Lw.nil (⟨?_, ⟨false, W0, rfl, Le.refl _ _, rfl, hm⟩⟩))))))))
    iterate 21 (refine .u ?_)
    exact Agree.refl _
  ·replace hm := bf hm hc5
   refine Lw.ps hc5 rfl (Lw.ps hc5 rfl (Lw.ps hc5 rfl (Lw.ps hc5 rfl (Lw.ps hc5 rfl (Lw.ps hc5 rfl (Lw.p hc5 (vB false) rfl (Lw.m (vB false) rfl (Lw.ps rfl rfl (Lw.ps rfl rfl (Lw.ps rfl rfl (Lw.ps rfl rfl (Lw.ps rfl rfl (Lw.p rfl (vB false) rfl (Lw.g (vB false) rfl (Lw.nil (⟨?_, ⟨false, W0, rfl, Le.refl _ _, rfl, hm⟩⟩))))))))))))))))
   iterate 21 (refine .u ?_)
   exact Agree.refl _

theorem p63 {W : CW} {K : List Nat} {x0 : Str} {x1 : Str} {r : Bool}  (hm : Vm.spec_l4In x0 x1 = some r) : CallR Tryz.prog 63 [vS x0, vS x1].toArray W.w (Res W [] fun W' v => v = vB r) :=
 (c63 (V := W.view K [])  hm).ad (fk 0) fun _ _ e => e

end Go.Sx
