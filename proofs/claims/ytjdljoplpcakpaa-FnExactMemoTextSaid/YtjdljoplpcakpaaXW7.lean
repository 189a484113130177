/- Walks: each function answers as its model, printed by a program of ours. Conditions: the arguments read as they are given. -/
import Derived.Test.YtjdljoplpcakpaaXTs
import Derived.Test.YtjdljoplpcakpaaXMd
import Derived.Test.YtjdljoplpcakpaaXW0
import Derived.Test.YtjdljoplpcakpaaXW1
import Derived.Test.YtjdljoplpcakpaaXW2
import Derived.Test.YtjdljoplpcakpaaXW4
import Derived.Test.YtjdljoplpcakpaaXW5
import Derived.Test.YtjdljoplpcakpaaXW6
namespace Go.Sx
open Go Go.Proofs Go.Vm Rp
set_option linter.unusedVariables false
set_option linter.unusedSimpArgs false

theorem c40 {V : CW} {x0 : List Vm.Memo} {v0_ : Value} {x1 : List Str} {v1_ : Value} {x2 : List Str} {v2_ : Value} {x3 : List Str} {v3_ : Value} {r : (List Str) × Bool} (h0 : Rd V [0] [v0_] x0) (h1 : Rd V [0] [v1_] x1) (h2 : Rd V [0] [v2_] x2) (h3 : Rd V [0] [v3_] x3) (hm : Vm.spec_MemoText x0 x1 x2 x3 = some r) : CallR Try.prog 40 [v0_, v1_, v2_, v3_].toArray V.w (Res V LL fun Wf v => ∃ (u0 : Value), v = .tuple [u0, vB r.2].toArray ∧ OwS Wf LL [] [u0] r.1) := by
  unfold Vm.spec_MemoText at hm
  obtain ⟨W0, hW0⟩ : ∃ W, W = V := ⟨V, rfl⟩
  subst hW0
  refine CallR.of Try.func40 rfl rfl rfl rfl ?_
  refine Cw.seq ?_
  refine Cw.region ?_
  refine Lw.r rfl (R.as (v := .slice none 0 0) rfl) (Lw.r rfl (R.as (v := vB false) rfl) ?_)
  refine Lw.nil ?_
  refine Cw.seq ?_
  refine Cw.region ?_
  refine Lw.t rfl (T.lit0 (α := Str) 2 []) ?_
  rintro v1 _ ⟨W1, rfl, l1, o1⟩
  have a2 : Le LL _ _ := l1.nil
  refine Lw.r rfl (R.as (v := v1) rfl) ?_
  refine Lw.nil ?_
  refine Cw.seq ?_
  obtain ⟨K5, hK5, hm⟩ := jn_e hm
  refine Cw.join 17 34 [34] (fun l w => ∃ (y3 : Bool) (W4 : CW), W4.w = w ∧ Le [] W1 W4 ∧ l = [vB y3] ∧ K5 y3 = some r) ?_ ?_
  · rintro _ _ σ ⟨y3, W4, rfl, l4, rfl, hm⟩
    rw [hK5] at hm
    have a6 : Le LL _ _ := l4.nil
    have o7 := o1.up l4 rfl
    refine Cw.cond (b := y3) rfl (fun hc8 => ?_) (fun hc8 => ?_)
    · replace hm := bt hm hc8
      refine Cw.seq ?_
      refine Cw.region ?_
      refine Lw.r rfl (R.as (v := .slice none 0 0) rfl) (Lw.r rfl (R.as (v := vB false) rfl) ?_)
      refine Lw.nil ?_
      cases hm
      exact Cw.ret (ret2 rfl rfl (Res.mk (a2.trans a6) ⟨.slice none 0 0, rfl, (owsN []).sub rfl rfl⟩))
    · replace hm := bf hm hc8
      refine Cw.skip ?_
      refine Cw.seq ?_
      refine Cw.region ?_
      refine Lw.r rfl (R.mv (v := v1_) rfl) (Lw.r rfl (R.mv (v := v2_) rfl) (Lw.r rfl (R.mv (v := v3_) rfl) ?_))
      have s9 := h1.ul (a2.trans a6)
      have s10 := h2.ul (a2.trans a6)
      have s11 := h3.ul (a2.trans a6)
      obtain ⟨z12, e13, hm⟩ := ob hm
      refine Lw.t rfl (T.call rfl (p67 (K := [0]) (k0 := 3) s9 s10 s11 e13)) ?_
      rintro v0_14 _ ⟨W14, rfl, l14, ⟨_, rfl, f14_0⟩⟩
      have a15 : Le LL _ _ := l14.nil
      have o16 := o7.up l14 rfl
      refine Lw.r rfl (R.as (v := v0_14) rfl) ?_
      refine Lw.nil ?_
      refine Cw.seq ?_
      refine Cw.seq ?_
      refine Cw.region ?_
      refine Lw.r rfl (R.as (v := vI 0) rfl) ?_
      refine Lw.nil ?_
      refine Cw.block ?_
      obtain ⟨K29, hK29, hm⟩ := jn_e hm
      refine Cw.loop 39 71 [8, 9, 10, 12, 13, 14, 15] (fun m l w => ∃ (y17 : List Str) (y20 : Bool) (y21 : List Str) (y24 : Int) (v18 v22 j25 j26 j27 : Value) (W28 : CW), W28.w = w ∧ Le [2, 5] W14 W28 ∧ l = [v18, vB y20, v22, vI y24, j25, j26, j27] ∧ Ow W28 4 [] [v18] y17 ∧ Ow W28 2 [] [v22] y21 ∧ Vm.spec_MemoText_l1 x0 z12 K29 m y17 y20 y21 y24 = some r) (((z12.length : Int) - 0).toNat + 1) ⟨([] : List Str), false, ([] : List Str), 0, .slice none 0 0, v1, undef, undef, undef, W14, rfl, Le.refl _ _, rfl, owN 4 [], o16, hm⟩ ?_
      rintro m30 _ _ σ ⟨y17, y20, y21, y24, v18, v22, j25, j26, j27, W28, rfl, l28, rfl, o19, o23, hm⟩
      obtain _ | m30 := m30
      · cases hm
      unfold Vm.spec_MemoText_l1 at hm
      have a31 : Le LL _ _ := l28.sub rfl
      have o32 := f14_0.up l28 rfl
      refine Cw.seq ?_
      refine Cw.seq ?_
      refine Cw.region ?_
      refine Lw.r rfl (R.mv (v := vI y24) rfl) (Lw.r rfl (R.mv (v := v0_14) rfl) (Lw.r rfl (lenR (xs := z12) o32.rd rfl) (Lw.r rfl (R.lt rfl rfl) ?_)))
      refine Lw.nil ?_
      refine Cw.cond (b := decide ((y24 : Int) < ((z12.length : Int) : Int))) rfl (fun hc33 => ?_) (fun hc33 => ?_)
      · replace hm := bt hm hc33
        refine Cw.skip ?_
        obtain ⟨K45, hK45, hm⟩ := jn_e hm
        refine Cw.join 45 71 [8, 9, 10, 13, 14, 15] (fun l w => ∃ (y34 : List Str) (y37 : Bool) (y38 : List Str) (v35 v39 j41 j42 j43 : Value) (W44 : CW), W44.w = w ∧ Le [2, 5] W28 W44 ∧ l = [v35, vB y37, v39, j41, j42, j43] ∧ Ow W44 4 [] [v35] y34 ∧ Ow W44 2 [] [v39] y38 ∧ K45 y34 y37 y38 = some r) ?_ ?_
        · rintro _ _ σ ⟨y34, y37, y38, v35, v39, j41, j42, j43, W44, rfl, l44, rfl, o36, o40, hm⟩
          rw [hK45] at hm
          have a46 : Le LL _ _ := l44.sub rfl
          have o47 := o32.up l44 rfl
          refine Cw.region ?_
          refine Lw.r rfl (R.mv (v := vI y24) rfl) (Lw.r rfl (R.add rfl rfl) (Lw.r rfl (R.as (v := vI (w64 (y24 + 1))) rfl) ?_))
          refine Lw.nil ?_
          refine ⟨?_, m30, Nat.lt_succ_self m30, ⟨y34, y37, y38, w64 (y24 + 1), v35, v39, j41, j42, j43, W44, rfl, (l28.trans l44), rfl, o36, o40, hm⟩⟩
          iterate 3 (refine Agree.up rfl ?_)
          iterate 6 (refine Agree.up rfl ?_)
          refine Agree.ov0 rfl ?_
          iterate 4 (refine Agree.up rfl ?_)
          iterate 7 (refine Agree.up rfl ?_)
          exact Agree.base
        · refine Cw.block ?_
          refine Cw.seq ?_
          refine Cw.region ?_
          refine Lw.r rfl (R.mv (v := v0_14) rfl) (Lw.r rfl (R.mv (v := vI y24) rfl) ?_)
          obtain ⟨u48, e49, hm⟩ := ob hm
          refine Lw.r rfl (R.ix (α := Part) o32.rd e49 rfl rfl rfl) ?_
          obtain ⟨x50, c51, _, r52⟩ := (o32.rd.at_ e49).cells
          obtain ⟨v53, v55, v57, v59, rfl, r54, r56, r58, r60⟩ := Part.split r52
          refine Lw.r rfl (R.lda c51 rfl rfl) ?_
          refine Lw.t rfl (T.alloc 5 (cs := [vB false, .slice none 0 0, .slice none 0 0, .slice none 0 0, .slice none 0 0]) rfl) ?_
          rintro _ _ ⟨g61, W61, rfl, rfl, l61, b61⟩
          have a62 : Le LL _ _ := l61.nil
          have o63 := o23.up l61 rfl
          have o64 := o32.up l61 rfl
          have o65 := o19.up l61 rfl
          refine Lw.u (T.sta (vs := [vB u48.Clash, v53, v55, v57, v59]) b61 rfl rfl (oc_cons rfl (oc_cons r54.oc (oc_cons r56.oc (oc_cons r58.oc (oc_cons r60.oc oc_nil))))) rfl rfl) ?_
          rintro _ _ ⟨W66, rfl, l66, b66⟩
          have a67 : Le LL _ _ := l66.sub rfl
          have o68 := o63.up l66 rfl
          have o69 := o64.up l66 rfl
          have o70 := o65.up l66 rfl
          refine Lw.nil ?_
          refine Cw.seq ?_
          refine Cw.seq ?_
          refine Cw.region ?_
          refine Lw.r rfl (R.fa rfl) (Lw.r rfl (R.ld (v := vB u48.Clash) rfl rfl (b66.cell rfl)) (Lw.r rfl (R.not rfl) ?_))
          refine Lw.nil ?_
          refine Cw.cond (b := (!u48.Clash)) rfl (fun hc71 => ?_) (fun hc71 => ?_)
          · replace hm := bt hm hc71
            refine Cw.seq ?_
            refine Cw.region ?_
            refine Lw.r rfl (R.mv (v := v22) rfl) (Lw.r rfl (R.fa rfl) (Lw.r rfl (R.ld (v := v53) rfl rfl (b66.cell rfl)) ?_))
            obtain ⟨q72, e73, hm⟩ := ob hm
            have s75 := r54.up ((l61.sub (M := [5]) rfl).trans (l66.sub (M := [5]) rfl)) rfl
            refine Lw.t rfl (T.appP (α := Str) o68 s75 rfl rfl e73) ?_
            rintro v74 _ ⟨W74, rfl, l74, o74⟩
            have a76 : Le LL _ _ := l74.sub rfl
            have o77 := o69.up l74 rfl
            have o78 := o70.up l74 rfl
            have b79 := b66.up l74 rfl
            refine Lw.r rfl (R.as (v := v74) rfl) ?_
            refine Lw.nil ?_
            refine Cw.exit ?_
            refine ⟨?_, ⟨y17, y20, q72, v18, v74, ptr (bx g61), j26, j27, W74, rfl, ((l61.sub rfl).trans ((l66.sub rfl).trans (l74.sub rfl))), rfl, o78, o74, hm⟩⟩
            iterate 13 (refine Agree.up rfl ?_)
            exact Agree.refl _
          · replace hm := bf hm hc71
            refine Cw.skip ?_
            refine Cw.seq ?_
            refine Cw.region ?_
            refine Lw.r rfl (R.mv (v := v0_) rfl) (Lw.r rfl (R.fa rfl) (Lw.r rfl (R.ld (v := v55) rfl rfl (b66.cell rfl)) (Lw.r rfl (R.fa rfl) (Lw.r rfl (R.ld (v := v57) rfl rfl (b66.cell rfl)) (Lw.r rfl (R.fa rfl) (Lw.r rfl (R.ld (v := v59) rfl rfl (b66.cell rfl)) ?_))))))
            have s80 := h0.ul (a2.trans (a6.trans (a15.trans (a31.trans (a62.trans a67)))))
            have s81 := r56.up ((l61.sub (M := [5]) rfl).trans (l66.sub (M := [5]) rfl)) rfl
            have s82 := r58.up ((l61.sub (M := [5]) rfl).trans (l66.sub (M := [5]) rfl)) rfl
            have s83 := r60.up ((l61.sub (M := [5]) rfl).trans (l66.sub (M := [5]) rfl)) rfl
            obtain ⟨z84, e85, hm⟩ := ob hm
            refine Lw.t rfl (T.call rfl (p68 (K := [0, 3])  (s80.sub (M := [0, 3]) rfl) (s81.sub (M := [0, 3]) rfl) (s82.sub (M := [0, 3]) rfl) (s83.sub (M := [0, 3]) rfl) e85)) ?_
            rintro _ _ ⟨W86, rfl, l86, ⟨v0_86, rfl, f86_0⟩⟩
            have s87 := f86_0.sub (M := [0, 3]) rfl
            have a88 : Le LL _ _ := l86.nil
            have o89 := o68.up l86 rfl
            have o90 := o69.up l86 rfl
            have o91 := o70.up l86 rfl
            have b92 := b66.up l86 rfl
            refine Lw.r rfl (R.mv (v := .tuple [v0_86, vB z84.2].toArray) rfl) (Lw.r rfl (R.ext (vs := [v0_86, vB z84.2]) (v := v0_86) rfl rfl) (Lw.r rfl (R.ext (vs := [v0_86, vB z84.2]) (v := vB z84.2) rfl rfl) (Lw.r rfl (R.as (v := v0_86) rfl) (Lw.r rfl (R.as (v := vB z84.2) rfl) ?_))))
            refine Lw.nil ?_
            refine Cw.seq ?_
            refine Cw.seq ?_
            refine Cw.region ?_
            refine Lw.r rfl (R.mv (v := vB z84.2) rfl) (Lw.r rfl (R.not rfl) ?_)
            refine Lw.nil ?_
            refine Cw.cond (b := (!z84.2)) rfl (fun hc93 => ?_) (fun hc93 => ?_)
            · replace hm := bt hm hc93
              refine Cw.seq ?_
              refine Cw.region ?_
              refine Lw.r rfl (R.as (v := .slice none 0 0) rfl) (Lw.r rfl (R.as (v := vB false) rfl) ?_)
              refine Lw.nil ?_
              cases hm
              exact Cw.ret (ret2 rfl rfl (Res.mk (a2.trans (a6.trans (a15.trans (a31.trans (a62.trans (a67.trans a88)))))) ⟨.slice none 0 0, rfl, (owsN []).sub rfl rfl⟩))
            · replace hm := bf hm hc93
              refine Cw.skip ?_
              refine Cw.region ?_
              refine Lw.r rfl (R.mv (v := v22) rfl) (Lw.r rfl (R.mv (v := v0_86) rfl) ?_)
              obtain ⟨q94, e95, hm⟩ := ob hm
              refine Lw.t rfl (T.appP (α := Str) o89 s87 rfl rfl e95) ?_
              rintro v96 _ ⟨W96, rfl, l96, o96⟩
              have a97 : Le LL _ _ := l96.sub rfl
              have o98 := o90.up l96 rfl
              have o99 := o91.up l96 rfl
              have b100 := b92.up l96 rfl
              refine Lw.r rfl (R.as (v := v96) rfl) ?_
              refine Lw.nil ?_
              refine ⟨?_, ⟨y17, y20, q94, v18, v96, ptr (bx g61), v0_86, vB z84.2, W96, rfl, ((l61.sub rfl).trans ((l66.sub rfl).trans ((l86.sub rfl).trans (l96.sub rfl)))), rfl, o99, o96, hm⟩⟩
              iterate 27 (refine Agree.up rfl ?_)
              exact Agree.refl _
      · replace hm := bf hm hc33
        refine Cw.exit ?_
        rw [hK29] at hm
        refine Cw.seq ?_
        refine Cw.seq ?_
        refine Cw.region ?_
        refine Lw.r rfl (R.mv (v := v22) rfl) ?_
        obtain ⟨z101, e102, hm⟩ := ob hm
        refine Lw.t rfl (T.call rfl (p66 (K := [2])  o23.rd e102)) ?_
        rintro _ _ ⟨W103, rfl, l103, rfl⟩
        have a104 : Le LL _ _ := l103.nil
        have o105 := o23.up l103 rfl
        have o106 := o32.up l103 rfl
        have o107 := o19.up l103 rfl
        refine Lw.r rfl (R.not rfl) ?_
        refine Lw.nil ?_
        refine Cw.cond (b := (!z101)) rfl (fun hc108 => ?_) (fun hc108 => ?_)
        · replace hm := bt hm hc108
          refine Cw.seq ?_
          refine Cw.region ?_
          refine Lw.r rfl (R.as (v := .slice none 0 0) rfl) (Lw.r rfl (R.as (v := vB false) rfl) ?_)
          refine Lw.nil ?_
          cases hm
          exact Cw.ret (ret2 rfl rfl (Res.mk (a2.trans (a6.trans (a15.trans (a31.trans a104)))) ⟨.slice none 0 0, rfl, (owsN []).sub rfl rfl⟩))
        · replace hm := bf hm hc108
          refine Cw.skip ?_
          refine Cw.seq ?_
          refine Cw.region ?_
          refine Lw.r rfl (R.mv (v := v22) rfl) (Lw.r rfl (R.as (v := v22) rfl) (Lw.r rfl (R.as (v := vB true) rfl) ?_))
          refine Lw.nil ?_
          cases hm
          exact Cw.ret (ret2 rfl rfl (Res.mk (a2.trans (a6.trans (a15.trans (a31.trans a104)))) ⟨v22, rfl, o105.s.sub rfl rfl⟩))
  · refine Cw.region ?_
    refine Lw.r rfl (R.mv (v := v0_) rfl) ?_
    have s109 := h0.ul a2
    obtain ⟨z110, e111, hm⟩ := ob hm
    refine Lw.t rfl (T.call rfl (p53 (K := [0])  s109 e111)) ?_
    rintro _ _ ⟨W112, rfl, l112, rfl⟩
    have a113 : Le LL _ _ := l112.nil
    have o114 := o1.up l112 rfl
    refine Lw.r rfl (R.not rfl) (Lw.r rfl (R.mv (v := vB (!z110)) rfl) ?_)
    refine bsplit (!z110) (fun hc115 => ?_) (fun hc115 => ?_)
    · replace hm := bt hm hc115
      refine Lw.pass' hc115 rfl rfl rfl rfl rfl rfl rfl ?_
      refine Lw.pass' hc115 rfl rfl rfl rfl rfl rfl rfl ?_
      refine Lw.pass' hc115 rfl rfl rfl rfl rfl rfl rfl ?_
      refine Lw.r rfl (R.pk hc115 rfl (v := vB true) rfl) (Lw.r rfl (R.mv (v := vB true) rfl) ?_)
      refine Lw.pass' rfl rfl rfl rfl rfl rfl rfl rfl ?_
      refine Lw.pass' rfl rfl rfl rfl rfl rfl rfl rfl ?_
      refine Lw.pass' rfl rfl rfl rfl rfl rfl rfl rfl ?_
      refine Lw.r rfl (R.pk rfl rfl (v := vB true) rfl) (Lw.r rfl (R.mv (v := vB true) rfl) ?_)
      refine Lw.pass' rfl rfl rfl rfl rfl rfl rfl rfl ?_
      refine Lw.pass' rfl rfl rfl rfl rfl rfl rfl rfl ?_
      refine Lw.pass' rfl rfl rfl rfl rfl rfl rfl rfl ?_
      refine Lw.r rfl (R.pk rfl rfl (v := vB true) rfl) ?_
      refine Lw.nil ?_
      refine ⟨?_, ⟨true, W112, rfl, l112, rfl, hm⟩⟩
      iterate 18 (refine Agree.up rfl ?_)
      exact Agree.refl _
    · replace hm := bf hm hc115
      refine Lw.want' hc115 rfl rfl rfl rfl ?_
      refine Lw.r rfl (R.mv (v := v1_) rfl) ?_
      refine Lw.want' hc115 rfl rfl rfl rfl ?_
      have s116 := h1.ul (a2.trans a113)
      obtain ⟨z117, e118, hm⟩ := ob hm
      refine Lw.t rfl (T.call rfl (p66 (K := [0])  s116 e118)) ?_
      rintro _ _ ⟨W119, rfl, l119, rfl⟩
      have a120 : Le LL _ _ := l119.nil
      have o121 := o114.up l119 rfl
      refine Lw.want' hc115 rfl rfl rfl rfl ?_
      refine Lw.r rfl (R.not rfl) (Lw.r rfl (R.pk hc115 rfl (v := vB (!z117)) rfl) (Lw.r rfl (R.mv (v := vB (!z117)) rfl) ?_))
      refine bsplit (!z117) (fun hc122 => ?_) (fun hc122 => ?_)
      · replace hm := bt hm hc122
        refine Lw.pass' hc122 rfl rfl rfl rfl rfl rfl rfl ?_
        refine Lw.pass' hc122 rfl rfl rfl rfl rfl rfl rfl ?_
        refine Lw.pass' hc122 rfl rfl rfl rfl rfl rfl rfl ?_
        refine Lw.r rfl (R.pk hc122 rfl (v := vB true) rfl) (Lw.r rfl (R.mv (v := vB true) rfl) ?_)
        refine Lw.pass' rfl rfl rfl rfl rfl rfl rfl rfl ?_
        refine Lw.pass' rfl rfl rfl rfl rfl rfl rfl rfl ?_
        refine Lw.pass' rfl rfl rfl rfl rfl rfl rfl rfl ?_
        refine Lw.r rfl (R.pk rfl rfl (v := vB true) rfl) ?_
        refine Lw.nil ?_
        refine ⟨?_, ⟨true, W119, rfl, (l112.trans l119), rfl, hm⟩⟩
        iterate 18 (refine Agree.up rfl ?_)
        exact Agree.refl _
      · replace hm := bf hm hc122
        refine Lw.want' hc122 rfl rfl rfl rfl ?_
        refine Lw.r rfl (R.mv (v := v2_) rfl) ?_
        refine Lw.want' hc122 rfl rfl rfl rfl ?_
        have s123 := h2.ul (a2.trans (a113.trans a120))
        obtain ⟨z124, e125, hm⟩ := ob hm
        refine Lw.t rfl (T.call rfl (p66 (K := [0])  s123 e125)) ?_
        rintro _ _ ⟨W126, rfl, l126, rfl⟩
        have a127 : Le LL _ _ := l126.nil
        have o128 := o121.up l126 rfl
        refine Lw.want' hc122 rfl rfl rfl rfl ?_
        refine Lw.r rfl (R.not rfl) (Lw.r rfl (R.pk hc122 rfl (v := vB (!z124)) rfl) (Lw.r rfl (R.mv (v := vB (!z124)) rfl) ?_))
        refine bsplit (!z124) (fun hc129 => ?_) (fun hc129 => ?_)
        · replace hm := bt hm hc129
          refine Lw.pass' hc129 rfl rfl rfl rfl rfl rfl rfl ?_
          refine Lw.pass' hc129 rfl rfl rfl rfl rfl rfl rfl ?_
          refine Lw.pass' hc129 rfl rfl rfl rfl rfl rfl rfl ?_
          refine Lw.r rfl (R.pk hc129 rfl (v := vB true) rfl) ?_
          refine Lw.nil ?_
          refine ⟨?_, ⟨true, W126, rfl, (l112.trans (l119.trans l126)), rfl, hm⟩⟩
          iterate 18 (refine Agree.up rfl ?_)
          exact Agree.refl _
        · replace hm := bf hm hc129
          refine Lw.want' hc129 rfl rfl rfl rfl ?_
          refine Lw.r rfl (R.mv (v := v3_) rfl) ?_
          refine Lw.want' hc129 rfl rfl rfl rfl ?_
          have s130 := h3.ul (a2.trans (a113.trans (a120.trans a127)))
          obtain ⟨z131, e132, hm⟩ := ob hm
          refine Lw.t rfl (T.call rfl (p66 (K := [0])  s130 e132)) ?_
          rintro _ _ ⟨W133, rfl, l133, rfl⟩
          have a134 : Le LL _ _ := l133.nil
          have o135 := o128.up l133 rfl
          refine Lw.want' hc129 rfl rfl rfl rfl ?_
          refine Lw.r rfl (R.not rfl) (Lw.r rfl (R.pk hc129 rfl (v := vB (!z131)) rfl) ?_)
          refine Lw.nil ?_
          refine ⟨?_, ⟨(!z131), W133, rfl, (l112.trans (l119.trans (l126.trans l133))), rfl, hm⟩⟩
          iterate 18 (refine Agree.up rfl ?_)
          exact Agree.refl _

theorem p40 {W : CW} {K : List Nat} {x0 : List Vm.Memo} {v0_ : Value} {x1 : List Str} {v1_ : Value} {x2 : List Str} {v2_ : Value} {x3 : List Str} {v3_ : Value} {k0 : Nat} {r : (List Str) × Bool} (h0 : Rd W K [v0_] x0) (h1 : Rd W K [v1_] x1) (h2 : Rd W K [v2_] x2) (h3 : Rd W K [v3_] x3) (hm : Vm.spec_MemoText x0 x1 x2 x3 = some r) : CallR Try.prog 40 [v0_, v1_, v2_, v3_].toArray W.w (Res W [] fun W' v => ∃ (u0 : Value), v = .tuple [u0, vB r.2].toArray ∧ Ow W' k0 [] [u0] r.1) :=
  (c40 (V := W.view K []) (h0.view _) (h1.view _) (h2.view _) (h3.view _) hm).ad (fk k0) fun _ _ ⟨u0, e, f0⟩ => ⟨u0, e, f0.back (fk_LL _)⟩

theorem c8 {V : CW} {x0 : List Vm.Memo} {v0_ : Value} {x1 : List Str} {v1_ : Value} {x2 : List Str} {v2_ : Value} {x3 : List Str} {v3_ : Value} {r : Bool} (h0 : Rd V [0] [v0_] x0) (h1 : Rd V [0] [v1_] x1) (h2 : Rd V [0] [v2_] x2) (h3 : Rd V [0] [v3_] x3) (hm : Vm.laws_FnExactMemoText x0 x1 x2 x3 = some r) : CallR Try.prog 8 [v0_, v1_, v2_, v3_].toArray V.w (Res V LL fun Wf v => v = vB r) := by
  unfold Vm.laws_FnExactMemoText at hm
  obtain ⟨W0, hW0⟩ : ∃ W, W = V := ⟨V, rfl⟩
  subst hW0
  refine CallR.of Try.func8 rfl rfl rfl rfl ?_
  refine Cw.seq ?_
  refine Cw.region ?_
  refine Lw.r rfl (R.as (v := vB false) rfl) ?_
  refine Lw.nil ?_
  refine Cw.seq ?_
  refine Cw.region ?_
  refine Lw.r rfl (R.as (v := vI 1048576) rfl) ?_
  refine Lw.nil ?_
  refine Cw.seq ?_
  refine Cw.region ?_
  refine Lw.r rfl (R.mv (v := v0_) rfl) (Lw.r rfl (R.mv (v := vI 1048576) rfl) ?_)
  obtain ⟨z1, e2, hm⟩ := ob hm
  refine Lw.t rfl (T.call rfl (p12 (K := [0])  h0 e2)) ?_
  rintro _ _ ⟨W3, rfl, l3, rfl⟩
  have a4 : Le LL _ _ := l3.nil
  refine Lw.r rfl (R.as (v := vI z1) rfl) ?_
  refine Lw.nil ?_
  refine Cw.seq ?_
  refine Cw.seq ?_
  refine Cw.region ?_
  refine Lw.r rfl (R.mv (v := vI z1) rfl) (Lw.r rfl (R.lt rfl rfl) ?_)
  refine Lw.nil ?_
  refine Cw.cond (b := decide ((z1 : Int) < (0 : Int))) rfl (fun hc5 => ?_) (fun hc5 => ?_)
  · replace hm := bt hm hc5
    refine Cw.seq ?_
    refine Cw.region ?_
    refine Lw.r rfl (R.as (v := vB true) rfl) ?_
    refine Lw.nil ?_
    cases hm
    exact Cw.ret (ret1 rfl (Res.mk a4 rfl))
  · replace hm := bf hm hc5
    refine Cw.skip ?_
    refine Cw.seq ?_
    refine Cw.region ?_
    refine Lw.r rfl (R.mv (v := v1_) rfl) (Lw.r rfl (R.mv (v := vI z1) rfl) ?_)
    have s6 := h1.ul a4
    obtain ⟨z7, e8, hm⟩ := ob hm
    refine Lw.t rfl (T.call rfl (p27 (K := [0])  s6 e8)) ?_
    rintro _ _ ⟨W9, rfl, l9, rfl⟩
    have a10 : Le LL _ _ := l9.nil
    refine Lw.r rfl (R.as (v := vI z7) rfl) ?_
    refine Lw.nil ?_
    refine Cw.seq ?_
    refine Cw.seq ?_
    refine Cw.region ?_
    refine Lw.r rfl (R.mv (v := vI z7) rfl) (Lw.r rfl (R.lt rfl rfl) ?_)
    refine Lw.nil ?_
    refine Cw.cond (b := decide ((z7 : Int) < (0 : Int))) rfl (fun hc11 => ?_) (fun hc11 => ?_)
    · replace hm := bt hm hc11
      refine Cw.seq ?_
      refine Cw.region ?_
      refine Lw.r rfl (R.as (v := vB true) rfl) ?_
      refine Lw.nil ?_
      cases hm
      exact Cw.ret (ret1 rfl (Res.mk (a4.trans a10) rfl))
    · replace hm := bf hm hc11
      refine Cw.skip ?_
      refine Cw.seq ?_
      refine Cw.region ?_
      refine Lw.r rfl (R.mv (v := v2_) rfl) (Lw.r rfl (R.mv (v := vI z7) rfl) ?_)
      have s12 := h2.ul (a4.trans a10)
      obtain ⟨z13, e14, hm⟩ := ob hm
      refine Lw.t rfl (T.call rfl (p27 (K := [0])  s12 e14)) ?_
      rintro _ _ ⟨W15, rfl, l15, rfl⟩
      have a16 : Le LL _ _ := l15.nil
      refine Lw.r rfl (R.as (v := vI z13) rfl) ?_
      refine Lw.nil ?_
      refine Cw.seq ?_
      refine Cw.seq ?_
      refine Cw.region ?_
      refine Lw.r rfl (R.mv (v := vI z13) rfl) (Lw.r rfl (R.lt rfl rfl) ?_)
      refine Lw.nil ?_
      refine Cw.cond (b := decide ((z13 : Int) < (0 : Int))) rfl (fun hc17 => ?_) (fun hc17 => ?_)
      · replace hm := bt hm hc17
        refine Cw.seq ?_
        refine Cw.region ?_
        refine Lw.r rfl (R.as (v := vB true) rfl) ?_
        refine Lw.nil ?_
        cases hm
        exact Cw.ret (ret1 rfl (Res.mk (a4.trans (a10.trans a16)) rfl))
      · replace hm := bf hm hc17
        refine Cw.skip ?_
        refine Cw.seq ?_
        refine Cw.region ?_
        refine Lw.r rfl (R.mv (v := v3_) rfl) (Lw.r rfl (R.mv (v := vI z13) rfl) ?_)
        have s18 := h3.ul (a4.trans (a10.trans a16))
        obtain ⟨z19, e20, hm⟩ := ob hm
        refine Lw.t rfl (T.call rfl (p27 (K := [0])  s18 e20)) ?_
        rintro _ _ ⟨W21, rfl, l21, rfl⟩
        have a22 : Le LL _ _ := l21.nil
        refine Lw.r rfl (R.as (v := vI z19) rfl) ?_
        refine Lw.nil ?_
        refine Cw.seq ?_
        refine Cw.seq ?_
        refine Cw.region ?_
        refine Lw.r rfl (R.mv (v := vI z19) rfl) (Lw.r rfl (R.lt rfl rfl) ?_)
        refine Lw.nil ?_
        refine Cw.cond (b := decide ((z19 : Int) < (0 : Int))) rfl (fun hc23 => ?_) (fun hc23 => ?_)
        · replace hm := bt hm hc23
          refine Cw.seq ?_
          refine Cw.region ?_
          refine Lw.r rfl (R.as (v := vB true) rfl) ?_
          refine Lw.nil ?_
          cases hm
          exact Cw.ret (ret1 rfl (Res.mk (a4.trans (a10.trans (a16.trans a22))) rfl))
        · replace hm := bf hm hc23
          refine Cw.skip ?_
          refine Cw.seq ?_
          refine Cw.region ?_
          refine Lw.r rfl (R.mv (v := v0_) rfl) ?_
          have s24 := h0.ul (a4.trans (a10.trans (a16.trans a22)))
          obtain ⟨z25, e26, hm⟩ := ob hm
          refine Lw.t rfl (T.call rfl (p14 (K := [0]) (k0 := 2) s24 e26)) ?_
          rintro v0_27 _ ⟨W27, rfl, l27, ⟨_, rfl, f27_0⟩⟩
          have a28 : Le LL _ _ := l27.nil
          refine Lw.r rfl (R.mv (v := v1_) rfl) ?_
          have s29 := h1.ul (a4.trans (a10.trans (a16.trans (a22.trans a28))))
          obtain ⟨z30, e31, hm⟩ := ob hm
          refine Lw.t rfl (T.call rfl (p29 (K := [0]) (k0 := 3) s29 e31)) ?_
          rintro v0_32 _ ⟨W32, rfl, l32, ⟨_, rfl, f32_0⟩⟩
          have a33 : Le LL _ _ := l32.nil
          have o34 := f27_0.up l32 rfl
          refine Lw.r rfl (R.mv (v := v2_) rfl) ?_
          have s35 := h2.ul (a4.trans (a10.trans (a16.trans (a22.trans (a28.trans a33)))))
          obtain ⟨z36, e37, hm⟩ := ob hm
          refine Lw.t rfl (T.call rfl (p29 (K := [0]) (k0 := 4) s35 e37)) ?_
          rintro v0_38 _ ⟨W38, rfl, l38, ⟨_, rfl, f38_0⟩⟩
          have a39 : Le LL _ _ := l38.nil
          have o40 := o34.up l38 rfl
          have o41 := f32_0.up l38 rfl
          refine Lw.r rfl (R.mv (v := v3_) rfl) ?_
          have s42 := h3.ul (a4.trans (a10.trans (a16.trans (a22.trans (a28.trans (a33.trans a39))))))
          obtain ⟨z43, e44, hm⟩ := ob hm
          refine Lw.t rfl (T.call rfl (p29 (K := [0]) (k0 := 5) s42 e44)) ?_
          rintro v0_45 _ ⟨W45, rfl, l45, ⟨_, rfl, f45_0⟩⟩
          have a46 : Le LL _ _ := l45.nil
          have o47 := o40.up l45 rfl
          have o48 := o41.up l45 rfl
          have o49 := f38_0.up l45 rfl
          obtain ⟨z50, e51, hm⟩ := ob hm
          refine Lw.t rfl (T.call rfl (p40 (K := [2, 3, 4, 5]) (k0 := 6) (o47.rd.sub (M := [2, 3, 4, 5]) rfl) (o48.rd.sub (M := [2, 3, 4, 5]) rfl) (o49.rd.sub (M := [2, 3, 4, 5]) rfl) (f45_0.rd.sub (M := [2, 3, 4, 5]) rfl) e51)) ?_
          rintro _ _ ⟨W52, rfl, l52, ⟨v0_52, rfl, f52_0⟩⟩
          have a53 : Le LL _ _ := l52.nil
          have o54 := o47.up l52 rfl
          have o55 := o48.up l52 rfl
          have o56 := o49.up l52 rfl
          have o57 := f45_0.up l52 rfl
          refine Lw.r rfl (R.mv (v := .tuple [v0_52, vB z50.2].toArray) rfl) (Lw.r rfl (R.ext (vs := [v0_52, vB z50.2]) (v := v0_52) rfl rfl) (Lw.r rfl (R.ext (vs := [v0_52, vB z50.2]) (v := vB z50.2) rfl rfl) (Lw.r rfl (R.as (v := v0_52) rfl) (Lw.r rfl (R.as (v := vB z50.2) rfl) ?_))))
          refine Lw.nil ?_
          refine Cw.seq ?_
          refine Cw.region ?_
          refine Lw.r rfl (R.mv (v := v0_) rfl) ?_
          have s58 := h0.ul (a4.trans (a10.trans (a16.trans (a22.trans (a28.trans (a33.trans (a39.trans (a46.trans a53))))))))
          obtain ⟨z59, e60, hm⟩ := ob hm
          refine Lw.t rfl (T.call rfl (p14 (K := [0]) (k0 := 7) s58 e60)) ?_
          rintro v0_61 _ ⟨W61, rfl, l61, ⟨_, rfl, f61_0⟩⟩
          have a62 : Le LL _ _ := l61.nil
          have o63 := o54.up l61 rfl
          have o64 := o55.up l61 rfl
          have o65 := o56.up l61 rfl
          have o66 := o57.up l61 rfl
          have o67 := f52_0.up l61 rfl
          refine Lw.r rfl (R.as (v := v0_61) rfl) ?_
          refine Lw.nil ?_
          refine Cw.seq ?_
          refine Cw.region ?_
          refine Lw.r rfl (R.mv (v := v1_) rfl) ?_
          have s68 := h1.ul (a4.trans (a10.trans (a16.trans (a22.trans (a28.trans (a33.trans (a39.trans (a46.trans (a53.trans a62)))))))))
          obtain ⟨z69, e70, hm⟩ := ob hm
          refine Lw.t rfl (T.call rfl (p29 (K := [0]) (k0 := 8) s68 e70)) ?_
          rintro v0_71 _ ⟨W71, rfl, l71, ⟨_, rfl, f71_0⟩⟩
          have a72 : Le LL _ _ := l71.nil
          have o73 := o63.up l71 rfl
          have o74 := o64.up l71 rfl
          have o75 := o65.up l71 rfl
          have o76 := o66.up l71 rfl
          have o77 := o67.up l71 rfl
          have o78 := f61_0.up l71 rfl
          refine Lw.r rfl (R.as (v := v0_71) rfl) ?_
          refine Lw.nil ?_
          refine Cw.seq ?_
          refine Cw.region ?_
          refine Lw.r rfl (R.mv (v := v2_) rfl) ?_
          have s79 := h2.ul (a4.trans (a10.trans (a16.trans (a22.trans (a28.trans (a33.trans (a39.trans (a46.trans (a53.trans (a62.trans a72))))))))))
          obtain ⟨z80, e81, hm⟩ := ob hm
          refine Lw.t rfl (T.call rfl (p29 (K := [0]) (k0 := 9) s79 e81)) ?_
          rintro v0_82 _ ⟨W82, rfl, l82, ⟨_, rfl, f82_0⟩⟩
          have a83 : Le LL _ _ := l82.nil
          have o84 := o73.up l82 rfl
          have o85 := o74.up l82 rfl
          have o86 := o75.up l82 rfl
          have o87 := o76.up l82 rfl
          have o88 := o77.up l82 rfl
          have o89 := o78.up l82 rfl
          have o90 := f71_0.up l82 rfl
          refine Lw.r rfl (R.as (v := v0_82) rfl) ?_
          refine Lw.nil ?_
          refine Cw.seq ?_
          refine Cw.region ?_
          refine Lw.r rfl (R.mv (v := v3_) rfl) ?_
          have s91 := h3.ul (a4.trans (a10.trans (a16.trans (a22.trans (a28.trans (a33.trans (a39.trans (a46.trans (a53.trans (a62.trans (a72.trans a83)))))))))))
          obtain ⟨z92, e93, hm⟩ := ob hm
          refine Lw.t rfl (T.call rfl (p29 (K := [0]) (k0 := 10) s91 e93)) ?_
          rintro v0_94 _ ⟨W94, rfl, l94, ⟨_, rfl, f94_0⟩⟩
          have a95 : Le LL _ _ := l94.nil
          have o96 := o84.up l94 rfl
          have o97 := o85.up l94 rfl
          have o98 := o86.up l94 rfl
          have o99 := o87.up l94 rfl
          have o100 := o88.up l94 rfl
          have o101 := o89.up l94 rfl
          have o102 := o90.up l94 rfl
          have o103 := f82_0.up l94 rfl
          refine Lw.r rfl (R.as (v := v0_94) rfl) ?_
          refine Lw.nil ?_
          refine Cw.seq ?_
          refine Cw.region ?_
          refine Lw.r rfl (R.mv (v := v0_61) rfl) (Lw.r rfl (R.mv (v := v0_71) rfl) (Lw.r rfl (R.mv (v := v0_82) rfl) (Lw.r rfl (R.mv (v := v0_94) rfl) ?_)))
          obtain ⟨z104, e105, hm⟩ := ob hm
          refine Lw.t rfl (T.call rfl (p37 (K := [7, 8, 9, 10]) (k0 := 11) (o101.rd.sub (M := [7, 8, 9, 10]) rfl) (o102.rd.sub (M := [7, 8, 9, 10]) rfl) (o103.rd.sub (M := [7, 8, 9, 10]) rfl) (f94_0.rd.sub (M := [7, 8, 9, 10]) rfl) e105)) ?_
          rintro _ _ ⟨W106, rfl, l106, ⟨v0_106, rfl, f106_0⟩⟩
          have a107 : Le LL _ _ := l106.nil
          have o108 := o96.up l106 rfl
          have o109 := o97.up l106 rfl
          have o110 := o98.up l106 rfl
          have o111 := o99.up l106 rfl
          have o112 := o100.up l106 rfl
          have o113 := o101.up l106 rfl
          have o114 := o102.up l106 rfl
          have o115 := o103.up l106 rfl
          have o116 := f94_0.up l106 rfl
          refine Lw.r rfl (R.mv (v := .tuple [v0_106, vB z104.2].toArray) rfl) (Lw.r rfl (R.ext (vs := [v0_106, vB z104.2]) (v := v0_106) rfl rfl) (Lw.r rfl (R.ext (vs := [v0_106, vB z104.2]) (v := vB z104.2) rfl rfl) (Lw.r rfl (R.as (v := v0_106) rfl) (Lw.r rfl (R.as (v := vB z104.2) rfl) ?_))))
          refine Lw.nil ?_
          refine Cw.seq ?_
          obtain ⟨K119, hK119, hm⟩ := jn_e hm
          refine Cw.join 71 79 [79] (fun l w => ∃ (y117 : Bool) (W118 : CW), W118.w = w ∧ Le [] W106 W118 ∧ l = [vB y117] ∧ K119 y117 = some r) ?_ ?_
          · rintro _ _ σ ⟨y117, W118, rfl, l118, rfl, hm⟩
            rw [hK119] at hm
            have a120 : Le LL _ _ := l118.nil
            have o121 := o108.up l118 rfl
            have o122 := o109.up l118 rfl
            have o123 := o110.up l118 rfl
            have o124 := o111.up l118 rfl
            have o125 := o112.up l118 rfl
            have o126 := o113.up l118 rfl
            have o127 := o114.up l118 rfl
            have o128 := o115.up l118 rfl
            have o129 := o116.up l118 rfl
            have o130 := f106_0.up l118 rfl
            refine Cw.cond (b := y117) rfl (fun hc131 => ?_) (fun hc131 => ?_)
            · replace hm := bt hm hc131
              refine Cw.seq ?_
              refine Cw.region ?_
              refine Lw.r rfl (R.as (v := vB false) rfl) ?_
              refine Lw.nil ?_
              cases hm
              exact Cw.ret (ret1 rfl (Res.mk (a4.trans (a10.trans (a16.trans (a22.trans (a28.trans (a33.trans (a39.trans (a46.trans (a53.trans (a62.trans (a72.trans (a83.trans (a95.trans (a107.trans a120)))))))))))))) rfl))
            · replace hm := bf hm hc131
              refine Cw.skip ?_
              refine Cw.seq ?_
              refine Cw.seq ?_
              refine Cw.region ?_
              refine Lw.r rfl (R.mv (v := v0_61) rfl) (Lw.r rfl (R.mv (v := v0_) rfl) ?_)
              have s132 := h0.ul (a4.trans (a10.trans (a16.trans (a22.trans (a28.trans (a33.trans (a39.trans (a46.trans (a53.trans (a62.trans (a72.trans (a83.trans (a95.trans (a107.trans a120))))))))))))))
              obtain ⟨z133, e134, hm⟩ := ob hm
              refine Lw.t rfl (T.call rfl (p14 (K := [0]) (k0 := 12) s132 e134)) ?_
              rintro v0_135 _ ⟨W135, rfl, l135, ⟨_, rfl, f135_0⟩⟩
              have a136 : Le LL _ _ := l135.nil
              have o137 := o121.up l135 rfl
              have o138 := o122.up l135 rfl
              have o139 := o123.up l135 rfl
              have o140 := o124.up l135 rfl
              have o141 := o125.up l135 rfl
              have o142 := o126.up l135 rfl
              have o143 := o127.up l135 rfl
              have o144 := o128.up l135 rfl
              have o145 := o129.up l135 rfl
              have o146 := o130.up l135 rfl
              obtain ⟨z147, e148, hm⟩ := ob hm
              refine Lw.t rfl (T.call rfl (p16 (K := [7, 12])  (o142.rd.sub (M := [7, 12]) rfl) (f135_0.rd.sub (M := [7, 12]) rfl) e148)) ?_
              rintro _ _ ⟨W149, rfl, l149, rfl⟩
              have a150 : Le LL _ _ := l149.nil
              have o151 := o137.up l149 rfl
              have o152 := o138.up l149 rfl
              have o153 := o139.up l149 rfl
              have o154 := o140.up l149 rfl
              have o155 := o141.up l149 rfl
              have o156 := o142.up l149 rfl
              have o157 := o143.up l149 rfl
              have o158 := o144.up l149 rfl
              have o159 := o145.up l149 rfl
              have o160 := o146.up l149 rfl
              have o161 := f135_0.up l149 rfl
              refine Lw.r rfl (R.not rfl) ?_
              refine Lw.nil ?_
              refine Cw.cond (b := (!z147)) rfl (fun hc162 => ?_) (fun hc162 => ?_)
              · replace hm := bt hm hc162
                refine Cw.seq ?_
                refine Cw.region ?_
                refine Lw.r rfl (R.as (v := vB false) rfl) ?_
                refine Lw.nil ?_
                cases hm
                exact Cw.ret (ret1 rfl (Res.mk (a4.trans (a10.trans (a16.trans (a22.trans (a28.trans (a33.trans (a39.trans (a46.trans (a53.trans (a62.trans (a72.trans (a83.trans (a95.trans (a107.trans (a120.trans (a136.trans a150)))))))))))))))) rfl))
              · replace hm := bf hm hc162
                refine Cw.skip ?_
                refine Cw.seq ?_
                refine Cw.seq ?_
                refine Cw.region ?_
                refine Lw.r rfl (R.mv (v := v0_71) rfl) (Lw.r rfl (R.mv (v := v1_) rfl) ?_)
                have s163 := h1.ul (a4.trans (a10.trans (a16.trans (a22.trans (a28.trans (a33.trans (a39.trans (a46.trans (a53.trans (a62.trans (a72.trans (a83.trans (a95.trans (a107.trans (a120.trans (a136.trans a150))))))))))))))))
                obtain ⟨z164, e165, hm⟩ := ob hm
                refine Lw.t rfl (T.call rfl (p29 (K := [0]) (k0 := 13) s163 e165)) ?_
                rintro v0_166 _ ⟨W166, rfl, l166, ⟨_, rfl, f166_0⟩⟩
                have a167 : Le LL _ _ := l166.nil
                have o168 := o151.up l166 rfl
                have o169 := o152.up l166 rfl
                have o170 := o153.up l166 rfl
                have o171 := o154.up l166 rfl
                have o172 := o155.up l166 rfl
                have o173 := o156.up l166 rfl
                have o174 := o157.up l166 rfl
                have o175 := o158.up l166 rfl
                have o176 := o159.up l166 rfl
                have o177 := o160.up l166 rfl
                have o178 := o161.up l166 rfl
                obtain ⟨z179, e180, hm⟩ := ob hm
                refine Lw.t rfl (T.call rfl (p31 (K := [8, 13])  (o174.rd.sub (M := [8, 13]) rfl) (f166_0.rd.sub (M := [8, 13]) rfl) e180)) ?_
                rintro _ _ ⟨W181, rfl, l181, rfl⟩
                have a182 : Le LL _ _ := l181.nil
                have o183 := o168.up l181 rfl
                have o184 := o169.up l181 rfl
                have o185 := o170.up l181 rfl
                have o186 := o171.up l181 rfl
                have o187 := o172.up l181 rfl
                have o188 := o173.up l181 rfl
                have o189 := o174.up l181 rfl
                have o190 := o175.up l181 rfl
                have o191 := o176.up l181 rfl
                have o192 := o177.up l181 rfl
                have o193 := o178.up l181 rfl
                have o194 := f166_0.up l181 rfl
                refine Lw.r rfl (R.not rfl) ?_
                refine Lw.nil ?_
                refine Cw.cond (b := (!z179)) rfl (fun hc195 => ?_) (fun hc195 => ?_)
                · replace hm := bt hm hc195
                  refine Cw.seq ?_
                  refine Cw.region ?_
                  refine Lw.r rfl (R.as (v := vB false) rfl) ?_
                  refine Lw.nil ?_
                  cases hm
                  exact Cw.ret (ret1 rfl (Res.mk (a4.trans (a10.trans (a16.trans (a22.trans (a28.trans (a33.trans (a39.trans (a46.trans (a53.trans (a62.trans (a72.trans (a83.trans (a95.trans (a107.trans (a120.trans (a136.trans (a150.trans (a167.trans a182)))))))))))))))))) rfl))
                · replace hm := bf hm hc195
                  refine Cw.skip ?_
                  refine Cw.seq ?_
                  refine Cw.seq ?_
                  refine Cw.region ?_
                  refine Lw.r rfl (R.mv (v := v0_82) rfl) (Lw.r rfl (R.mv (v := v2_) rfl) ?_)
                  have s196 := h2.ul (a4.trans (a10.trans (a16.trans (a22.trans (a28.trans (a33.trans (a39.trans (a46.trans (a53.trans (a62.trans (a72.trans (a83.trans (a95.trans (a107.trans (a120.trans (a136.trans (a150.trans (a167.trans a182))))))))))))))))))
                  obtain ⟨z197, e198, hm⟩ := ob hm
                  refine Lw.t rfl (T.call rfl (p29 (K := [0]) (k0 := 14) s196 e198)) ?_
                  rintro v0_199 _ ⟨W199, rfl, l199, ⟨_, rfl, f199_0⟩⟩
                  have a200 : Le LL _ _ := l199.nil
                  have o201 := o183.up l199 rfl
                  have o202 := o184.up l199 rfl
                  have o203 := o185.up l199 rfl
                  have o204 := o186.up l199 rfl
                  have o205 := o187.up l199 rfl
                  have o206 := o188.up l199 rfl
                  have o207 := o189.up l199 rfl
                  have o208 := o190.up l199 rfl
                  have o209 := o191.up l199 rfl
                  have o210 := o192.up l199 rfl
                  have o211 := o193.up l199 rfl
                  have o212 := o194.up l199 rfl
                  obtain ⟨z213, e214, hm⟩ := ob hm
                  refine Lw.t rfl (T.call rfl (p31 (K := [9, 14])  (o208.rd.sub (M := [9, 14]) rfl) (f199_0.rd.sub (M := [9, 14]) rfl) e214)) ?_
                  rintro _ _ ⟨W215, rfl, l215, rfl⟩
                  have a216 : Le LL _ _ := l215.nil
                  have o217 := o201.up l215 rfl
                  have o218 := o202.up l215 rfl
                  have o219 := o203.up l215 rfl
                  have o220 := o204.up l215 rfl
                  have o221 := o205.up l215 rfl
                  have o222 := o206.up l215 rfl
                  have o223 := o207.up l215 rfl
                  have o224 := o208.up l215 rfl
                  have o225 := o209.up l215 rfl
                  have o226 := o210.up l215 rfl
                  have o227 := o211.up l215 rfl
                  have o228 := o212.up l215 rfl
                  have o229 := f199_0.up l215 rfl
                  refine Lw.r rfl (R.not rfl) ?_
                  refine Lw.nil ?_
                  refine Cw.cond (b := (!z213)) rfl (fun hc230 => ?_) (fun hc230 => ?_)
                  · replace hm := bt hm hc230
                    refine Cw.seq ?_
                    refine Cw.region ?_
                    refine Lw.r rfl (R.as (v := vB false) rfl) ?_
                    refine Lw.nil ?_
                    cases hm
                    exact Cw.ret (ret1 rfl (Res.mk (a4.trans (a10.trans (a16.trans (a22.trans (a28.trans (a33.trans (a39.trans (a46.trans (a53.trans (a62.trans (a72.trans (a83.trans (a95.trans (a107.trans (a120.trans (a136.trans (a150.trans (a167.trans (a182.trans (a200.trans a216)))))))))))))))))))) rfl))
                  · replace hm := bf hm hc230
                    refine Cw.skip ?_
                    refine Cw.seq ?_
                    refine Cw.seq ?_
                    refine Cw.region ?_
                    refine Lw.r rfl (R.mv (v := v0_94) rfl) (Lw.r rfl (R.mv (v := v3_) rfl) ?_)
                    have s231 := h3.ul (a4.trans (a10.trans (a16.trans (a22.trans (a28.trans (a33.trans (a39.trans (a46.trans (a53.trans (a62.trans (a72.trans (a83.trans (a95.trans (a107.trans (a120.trans (a136.trans (a150.trans (a167.trans (a182.trans (a200.trans a216))))))))))))))))))))
                    obtain ⟨z232, e233, hm⟩ := ob hm
                    refine Lw.t rfl (T.call rfl (p29 (K := [0]) (k0 := 15) s231 e233)) ?_
                    rintro v0_234 _ ⟨W234, rfl, l234, ⟨_, rfl, f234_0⟩⟩
                    have a235 : Le LL _ _ := l234.nil
                    have o236 := o217.up l234 rfl
                    have o237 := o218.up l234 rfl
                    have o238 := o219.up l234 rfl
                    have o239 := o220.up l234 rfl
                    have o240 := o221.up l234 rfl
                    have o241 := o222.up l234 rfl
                    have o242 := o223.up l234 rfl
                    have o243 := o224.up l234 rfl
                    have o244 := o225.up l234 rfl
                    have o245 := o226.up l234 rfl
                    have o246 := o227.up l234 rfl
                    have o247 := o228.up l234 rfl
                    have o248 := o229.up l234 rfl
                    obtain ⟨z249, e250, hm⟩ := ob hm
                    refine Lw.t rfl (T.call rfl (p31 (K := [10, 15])  (o244.rd.sub (M := [10, 15]) rfl) (f234_0.rd.sub (M := [10, 15]) rfl) e250)) ?_
                    rintro _ _ ⟨W251, rfl, l251, rfl⟩
                    have a252 : Le LL _ _ := l251.nil
                    have o253 := o236.up l251 rfl
                    have o254 := o237.up l251 rfl
                    have o255 := o238.up l251 rfl
                    have o256 := o239.up l251 rfl
                    have o257 := o240.up l251 rfl
                    have o258 := o241.up l251 rfl
                    have o259 := o242.up l251 rfl
                    have o260 := o243.up l251 rfl
                    have o261 := o244.up l251 rfl
                    have o262 := o245.up l251 rfl
                    have o263 := o246.up l251 rfl
                    have o264 := o247.up l251 rfl
                    have o265 := o248.up l251 rfl
                    have o266 := f234_0.up l251 rfl
                    refine Lw.r rfl (R.not rfl) ?_
                    refine Lw.nil ?_
                    refine Cw.cond (b := (!z249)) rfl (fun hc267 => ?_) (fun hc267 => ?_)
                    · replace hm := bt hm hc267
                      refine Cw.seq ?_
                      refine Cw.region ?_
                      refine Lw.r rfl (R.as (v := vB false) rfl) ?_
                      refine Lw.nil ?_
                      cases hm
                      exact Cw.ret (ret1 rfl (Res.mk (a4.trans (a10.trans (a16.trans (a22.trans (a28.trans (a33.trans (a39.trans (a46.trans (a53.trans (a62.trans (a72.trans (a83.trans (a95.trans (a107.trans (a120.trans (a136.trans (a150.trans (a167.trans (a182.trans (a200.trans (a216.trans (a235.trans a252)))))))))))))))))))))) rfl))
                    · replace hm := bf hm hc267
                      refine Cw.skip ?_
                      refine Cw.seq ?_
                      refine Cw.region ?_
                      refine Lw.r rfl (R.as (v := vI 1) rfl) ?_
                      refine Lw.nil ?_
                      refine Cw.seq ?_
                      refine Cw.region ?_
                      refine Lw.r rfl (R.mv (v := v0_61) rfl) (Lw.r rfl (R.mv (v := vI 1) rfl) ?_)
                      obtain ⟨z268, e269, hm⟩ := ob hm
                      refine Lw.t rfl (T.call rfl (p24 (K := [0])  (c0 := 7) o258 rfl e269)) ?_
                      rintro _ _ ⟨W270, rfl, l270, ⟨rfl, f270_0⟩⟩
                      have a271 : Le LL _ _ := l270.sub rfl
                      have o272 := o253.up l270 rfl
                      have o273 := o254.up l270 rfl
                      have o274 := o255.up l270 rfl
                      have o275 := o256.up l270 rfl
                      have o276 := o257.up l270 rfl
                      have o277 := o259.up l270 rfl
                      have o278 := o260.up l270 rfl
                      have o279 := o261.up l270 rfl
                      have o280 := o262.up l270 rfl
                      have o281 := o263.up l270 rfl
                      have o282 := o264.up l270 rfl
                      have o283 := o265.up l270 rfl
                      have o284 := o266.up l270 rfl
                      refine Lw.r rfl (R.as (v := vI z268.1) rfl) ?_
                      refine Lw.nil ?_
                      refine Cw.seq ?_
                      refine Cw.region ?_
                      refine Lw.r rfl (R.mv (v := v0_71) rfl) (Lw.r rfl (R.mv (v := vI z268.1) rfl) ?_)
                      obtain ⟨z285, e286, hm⟩ := ob hm
                      refine Lw.t rfl (T.call rfl (p41 (K := [0])  (c0 := 8) o277 rfl e286)) ?_
                      rintro _ _ ⟨W287, rfl, l287, ⟨rfl, f287_0⟩⟩
                      have a288 : Le LL _ _ := l287.sub rfl
                      have o289 := o272.up l287 rfl
                      have o290 := o273.up l287 rfl
                      have o291 := o274.up l287 rfl
                      have o292 := o275.up l287 rfl
                      have o293 := o276.up l287 rfl
                      have o294 := f270_0.up l287 rfl
                      have o295 := o278.up l287 rfl
                      have o296 := o279.up l287 rfl
                      have o297 := o280.up l287 rfl
                      have o298 := o281.up l287 rfl
                      have o299 := o282.up l287 rfl
                      have o300 := o283.up l287 rfl
                      have o301 := o284.up l287 rfl
                      refine Lw.r rfl (R.as (v := vI z285.1) rfl) ?_
                      refine Lw.nil ?_
                      refine Cw.seq ?_
                      refine Cw.region ?_
                      refine Lw.r rfl (R.mv (v := v0_82) rfl) (Lw.r rfl (R.mv (v := vI z285.1) rfl) ?_)
                      obtain ⟨z302, e303, hm⟩ := ob hm
                      refine Lw.t rfl (T.call rfl (p41 (K := [0])  (c0 := 9) o295 rfl e303)) ?_
                      rintro _ _ ⟨W304, rfl, l304, ⟨rfl, f304_0⟩⟩
                      have a305 : Le LL _ _ := l304.sub rfl
                      have o306 := o289.up l304 rfl
                      have o307 := o290.up l304 rfl
                      have o308 := o291.up l304 rfl
                      have o309 := o292.up l304 rfl
                      have o310 := o293.up l304 rfl
                      have o311 := o294.up l304 rfl
                      have o312 := f287_0.up l304 rfl
                      have o313 := o296.up l304 rfl
                      have o314 := o297.up l304 rfl
                      have o315 := o298.up l304 rfl
                      have o316 := o299.up l304 rfl
                      have o317 := o300.up l304 rfl
                      have o318 := o301.up l304 rfl
                      refine Lw.r rfl (R.as (v := vI z302.1) rfl) ?_
                      refine Lw.nil ?_
                      refine Cw.seq ?_
                      refine Cw.region ?_
                      refine Lw.r rfl (R.mv (v := v0_94) rfl) (Lw.r rfl (R.mv (v := vI z302.1) rfl) ?_)
                      obtain ⟨z319, e320, hm⟩ := ob hm
                      refine Lw.t rfl (T.call rfl (p41 (K := [0])  (c0 := 10) o313 rfl e320)) ?_
                      rintro _ _ ⟨W321, rfl, l321, ⟨rfl, f321_0⟩⟩
                      have a322 : Le LL _ _ := l321.sub rfl
                      have o323 := o306.up l321 rfl
                      have o324 := o307.up l321 rfl
                      have o325 := o308.up l321 rfl
                      have o326 := o309.up l321 rfl
                      have o327 := o310.up l321 rfl
                      have o328 := o311.up l321 rfl
                      have o329 := o312.up l321 rfl
                      have o330 := f304_0.up l321 rfl
                      have o331 := o314.up l321 rfl
                      have o332 := o315.up l321 rfl
                      have o333 := o316.up l321 rfl
                      have o334 := o317.up l321 rfl
                      have o335 := o318.up l321 rfl
                      refine Lw.r rfl (R.as (v := vI z319.1) rfl) ?_
                      refine Lw.nil ?_
                      refine Cw.seq ?_
                      obtain ⟨K338, hK338, hm⟩ := jn_e hm
                      refine Cw.join 112 124 [124] (fun l w => ∃ (y336 : Bool) (W337 : CW), W337.w = w ∧ Le [] W321 W337 ∧ l = [vB y336] ∧ K338 y336 = some r) ?_ ?_
                      · rintro _ _ σ ⟨y336, W337, rfl, l337, rfl, hm⟩
                        rw [hK338] at hm
                        have a339 : Le LL _ _ := l337.nil
                        have o340 := o323.up l337 rfl
                        have o341 := o324.up l337 rfl
                        have o342 := o325.up l337 rfl
                        have o343 := o326.up l337 rfl
                        have o344 := o327.up l337 rfl
                        have o345 := o328.up l337 rfl
                        have o346 := o329.up l337 rfl
                        have o347 := o330.up l337 rfl
                        have o348 := f321_0.up l337 rfl
                        have o349 := o331.up l337 rfl
                        have o350 := o332.up l337 rfl
                        have o351 := o333.up l337 rfl
                        have o352 := o334.up l337 rfl
                        have o353 := o335.up l337 rfl
                        refine Cw.cond (b := y336) rfl (fun hc354 => ?_) (fun hc354 => ?_)
                        · replace hm := bt hm hc354
                          refine Cw.seq ?_
                          refine Cw.region ?_
                          refine Lw.r rfl (R.as (v := vB false) rfl) ?_
                          refine Lw.nil ?_
                          cases hm
                          exact Cw.ret (ret1 rfl (Res.mk (a4.trans (a10.trans (a16.trans (a22.trans (a28.trans (a33.trans (a39.trans (a46.trans (a53.trans (a62.trans (a72.trans (a83.trans (a95.trans (a107.trans (a120.trans (a136.trans (a150.trans (a167.trans (a182.trans (a200.trans (a216.trans (a235.trans (a252.trans (a271.trans (a288.trans (a305.trans (a322.trans a339))))))))))))))))))))))))))) rfl))
                        · replace hm := bf hm hc354
                          refine Cw.skip ?_
                          refine Cw.seq ?_
                          refine Cw.region ?_
                          refine Lw.r rfl (R.as (v := vI 1) rfl) ?_
                          refine Lw.nil ?_
                          refine Cw.seq ?_
                          refine Cw.region ?_
                          refine Lw.r rfl (R.mv (v := v0_106) rfl) (Lw.r rfl (R.mv (v := vI 1) rfl) ?_)
                          obtain ⟨z355, e356, hm⟩ := ob hm
                          refine Lw.t rfl (T.call rfl (p41 (K := [0])  (c0 := 11) o349 rfl e356)) ?_
                          rintro _ _ ⟨W357, rfl, l357, ⟨rfl, f357_0⟩⟩
                          have a358 : Le LL _ _ := l357.sub rfl
                          have o359 := o340.up l357 rfl
                          have o360 := o341.up l357 rfl
                          have o361 := o342.up l357 rfl
                          have o362 := o343.up l357 rfl
                          have o363 := o344.up l357 rfl
                          have o364 := o345.up l357 rfl
                          have o365 := o346.up l357 rfl
                          have o366 := o347.up l357 rfl
                          have o367 := o348.up l357 rfl
                          have o368 := o350.up l357 rfl
                          have o369 := o351.up l357 rfl
                          have o370 := o352.up l357 rfl
                          have o371 := o353.up l357 rfl
                          refine Lw.r rfl (R.as (v := vI z355.1) rfl) ?_
                          refine Lw.nil ?_
                          refine Cw.seq ?_
                          refine Cw.region ?_
                          refine Lw.r rfl (R.as (v := vI 1) rfl) ?_
                          refine Lw.nil ?_
                          refine Cw.seq ?_
                          refine Cw.region ?_
                          refine Lw.r rfl (R.mv (v := v0_106) rfl) (Lw.r rfl (R.mv (v := vI 1) rfl) ?_)
                          obtain ⟨z372, e373, hm⟩ := ob hm
                          refine Lw.t rfl (T.call rfl (p42 (K := [11])  f357_0.rd e373)) ?_
                          rintro _ _ ⟨W374, rfl, l374, rfl⟩
                          have a375 : Le LL _ _ := l374.nil
                          have o376 := o359.up l374 rfl
                          have o377 := o360.up l374 rfl
                          have o378 := o361.up l374 rfl
                          have o379 := o362.up l374 rfl
                          have o380 := o363.up l374 rfl
                          have o381 := o364.up l374 rfl
                          have o382 := o365.up l374 rfl
                          have o383 := o366.up l374 rfl
                          have o384 := o367.up l374 rfl
                          have o385 := f357_0.up l374 rfl
                          have o386 := o368.up l374 rfl
                          have o387 := o369.up l374 rfl
                          have o388 := o370.up l374 rfl
                          have o389 := o371.up l374 rfl
                          refine Lw.r rfl (R.as (v := vI z372) rfl) ?_
                          refine Lw.nil ?_
                          refine Cw.seq ?_
                          refine Cw.seq ?_
                          refine Cw.region ?_
                          refine Lw.r rfl (R.mv (v := vI z372) rfl) (Lw.r rfl (R.lt rfl rfl) ?_)
                          refine Lw.nil ?_
                          refine Cw.cond (b := decide ((z372 : Int) < (0 : Int))) rfl (fun hc390 => ?_) (fun hc390 => ?_)
                          · replace hm := bt hm hc390
                            refine Cw.seq ?_
                            refine Cw.region ?_
                            refine Lw.r rfl (R.as (v := vB false) rfl) ?_
                            refine Lw.nil ?_
                            cases hm
                            exact Cw.ret (ret1 rfl (Res.mk (a4.trans (a10.trans (a16.trans (a22.trans (a28.trans (a33.trans (a39.trans (a46.trans (a53.trans (a62.trans (a72.trans (a83.trans (a95.trans (a107.trans (a120.trans (a136.trans (a150.trans (a167.trans (a182.trans (a200.trans (a216.trans (a235.trans (a252.trans (a271.trans (a288.trans (a305.trans (a322.trans (a339.trans (a358.trans a375))))))))))))))))))))))))))))) rfl))
                          · replace hm := bf hm hc390
                            refine Cw.skip ?_
                            refine Cw.seq ?_
                            refine Cw.seq ?_
                            refine Cw.region ?_
                            refine Lw.r rfl (R.mv (v := vI z372) rfl) (Lw.r rfl (R.mv (v := vI z355.1) rfl) (Lw.r rfl (R.ne rfl rfl) ?_))
                            refine Lw.nil ?_
                            refine Cw.cond (b := ((z372 : Int) != (z355.1 : Int))) rfl (fun hc391 => ?_) (fun hc391 => ?_)
                            · replace hm := bt hm hc391
                              refine Cw.seq ?_
                              refine Cw.region ?_
                              refine Lw.r rfl (R.as (v := vB false) rfl) ?_
                              refine Lw.nil ?_
                              cases hm
                              exact Cw.ret (ret1 rfl (Res.mk (a4.trans (a10.trans (a16.trans (a22.trans (a28.trans (a33.trans (a39.trans (a46.trans (a53.trans (a62.trans (a72.trans (a83.trans (a95.trans (a107.trans (a120.trans (a136.trans (a150.trans (a167.trans (a182.trans (a200.trans (a216.trans (a235.trans (a252.trans (a271.trans (a288.trans (a305.trans (a322.trans (a339.trans (a358.trans a375))))))))))))))))))))))))))))) rfl))
                            · replace hm := bf hm hc391
                              refine Cw.skip ?_
                              refine Cw.seq ?_
                              refine Cw.region ?_
                              refine Lw.r rfl (R.mv (v := v0_) rfl) ?_
                              have s392 := h0.ul (a4.trans (a10.trans (a16.trans (a22.trans (a28.trans (a33.trans (a39.trans (a46.trans (a53.trans (a62.trans (a72.trans (a83.trans (a95.trans (a107.trans (a120.trans (a136.trans (a150.trans (a167.trans (a182.trans (a200.trans (a216.trans (a235.trans (a252.trans (a271.trans (a288.trans (a305.trans (a322.trans (a339.trans (a358.trans a375)))))))))))))))))))))))))))))
                              obtain ⟨z393, e394, hm⟩ := ob hm
                              refine Lw.t rfl (T.call rfl (p14 (K := [0]) (k0 := 16) s392 e394)) ?_
                              rintro v0_395 _ ⟨W395, rfl, l395, ⟨_, rfl, f395_0⟩⟩
                              have a396 : Le LL _ _ := l395.nil
                              have o397 := o376.up l395 rfl
                              have o398 := o377.up l395 rfl
                              have o399 := o378.up l395 rfl
                              have o400 := o379.up l395 rfl
                              have o401 := o380.up l395 rfl
                              have o402 := o381.up l395 rfl
                              have o403 := o382.up l395 rfl
                              have o404 := o383.up l395 rfl
                              have o405 := o384.up l395 rfl
                              have o406 := o385.up l395 rfl
                              have o407 := o386.up l395 rfl
                              have o408 := o387.up l395 rfl
                              have o409 := o388.up l395 rfl
                              have o410 := o389.up l395 rfl
                              refine Lw.r rfl (R.mv (v := v1_) rfl) ?_
                              have s411 := h1.ul (a4.trans (a10.trans (a16.trans (a22.trans (a28.trans (a33.trans (a39.trans (a46.trans (a53.trans (a62.trans (a72.trans (a83.trans (a95.trans (a107.trans (a120.trans (a136.trans (a150.trans (a167.trans (a182.trans (a200.trans (a216.trans (a235.trans (a252.trans (a271.trans (a288.trans (a305.trans (a322.trans (a339.trans (a358.trans (a375.trans a396))))))))))))))))))))))))))))))
                              obtain ⟨z412, e413, hm⟩ := ob hm
                              refine Lw.t rfl (T.call rfl (p29 (K := [0]) (k0 := 17) s411 e413)) ?_
                              rintro v0_414 _ ⟨W414, rfl, l414, ⟨_, rfl, f414_0⟩⟩
                              have a415 : Le LL _ _ := l414.nil
                              have o416 := o397.up l414 rfl
                              have o417 := o398.up l414 rfl
                              have o418 := o399.up l414 rfl
                              have o419 := o400.up l414 rfl
                              have o420 := o401.up l414 rfl
                              have o421 := o402.up l414 rfl
                              have o422 := o403.up l414 rfl
                              have o423 := o404.up l414 rfl
                              have o424 := o405.up l414 rfl
                              have o425 := o406.up l414 rfl
                              have o426 := o407.up l414 rfl
                              have o427 := o408.up l414 rfl
                              have o428 := o409.up l414 rfl
                              have o429 := o410.up l414 rfl
                              have o430 := f395_0.up l414 rfl
                              refine Lw.r rfl (R.mv (v := v2_) rfl) ?_
                              have s431 := h2.ul (a4.trans (a10.trans (a16.trans (a22.trans (a28.trans (a33.trans (a39.trans (a46.trans (a53.trans (a62.trans (a72.trans (a83.trans (a95.trans (a107.trans (a120.trans (a136.trans (a150.trans (a167.trans (a182.trans (a200.trans (a216.trans (a235.trans (a252.trans (a271.trans (a288.trans (a305.trans (a322.trans (a339.trans (a358.trans (a375.trans (a396.trans a415)))))))))))))))))))))))))))))))
                              obtain ⟨z432, e433, hm⟩ := ob hm
                              refine Lw.t rfl (T.call rfl (p29 (K := [0]) (k0 := 18) s431 e433)) ?_
                              rintro v0_434 _ ⟨W434, rfl, l434, ⟨_, rfl, f434_0⟩⟩
                              have a435 : Le LL _ _ := l434.nil
                              have o436 := o416.up l434 rfl
                              have o437 := o417.up l434 rfl
                              have o438 := o418.up l434 rfl
                              have o439 := o419.up l434 rfl
                              have o440 := o420.up l434 rfl
                              have o441 := o421.up l434 rfl
                              have o442 := o422.up l434 rfl
                              have o443 := o423.up l434 rfl
                              have o444 := o424.up l434 rfl
                              have o445 := o425.up l434 rfl
                              have o446 := o426.up l434 rfl
                              have o447 := o427.up l434 rfl
                              have o448 := o428.up l434 rfl
                              have o449 := o429.up l434 rfl
                              have o450 := o430.up l434 rfl
                              have o451 := f414_0.up l434 rfl
                              refine Lw.r rfl (R.mv (v := v3_) rfl) ?_
                              have s452 := h3.ul (a4.trans (a10.trans (a16.trans (a22.trans (a28.trans (a33.trans (a39.trans (a46.trans (a53.trans (a62.trans (a72.trans (a83.trans (a95.trans (a107.trans (a120.trans (a136.trans (a150.trans (a167.trans (a182.trans (a200.trans (a216.trans (a235.trans (a252.trans (a271.trans (a288.trans (a305.trans (a322.trans (a339.trans (a358.trans (a375.trans (a396.trans (a415.trans a435))))))))))))))))))))))))))))))))
                              obtain ⟨z453, e454, hm⟩ := ob hm
                              refine Lw.t rfl (T.call rfl (p29 (K := [0]) (k0 := 19) s452 e454)) ?_
                              rintro v0_455 _ ⟨W455, rfl, l455, ⟨_, rfl, f455_0⟩⟩
                              have a456 : Le LL _ _ := l455.nil
                              have o457 := o436.up l455 rfl
                              have o458 := o437.up l455 rfl
                              have o459 := o438.up l455 rfl
                              have o460 := o439.up l455 rfl
                              have o461 := o440.up l455 rfl
                              have o462 := o441.up l455 rfl
                              have o463 := o442.up l455 rfl
                              have o464 := o443.up l455 rfl
                              have o465 := o444.up l455 rfl
                              have o466 := o445.up l455 rfl
                              have o467 := o446.up l455 rfl
                              have o468 := o447.up l455 rfl
                              have o469 := o448.up l455 rfl
                              have o470 := o449.up l455 rfl
                              have o471 := o450.up l455 rfl
                              have o472 := o451.up l455 rfl
                              have o473 := f434_0.up l455 rfl
                              obtain ⟨z474, e475, hm⟩ := ob hm
                              refine Lw.t rfl (T.call rfl (p37 (K := [16, 17, 18, 19]) (k0 := 20) (o471.rd.sub (M := [16, 17, 18, 19]) rfl) (o472.rd.sub (M := [16, 17, 18, 19]) rfl) (o473.rd.sub (M := [16, 17, 18, 19]) rfl) (f455_0.rd.sub (M := [16, 17, 18, 19]) rfl) e475)) ?_
                              rintro _ _ ⟨W476, rfl, l476, ⟨v0_476, rfl, f476_0⟩⟩
                              have a477 : Le LL _ _ := l476.nil
                              have o478 := o457.up l476 rfl
                              have o479 := o458.up l476 rfl
                              have o480 := o459.up l476 rfl
                              have o481 := o460.up l476 rfl
                              have o482 := o461.up l476 rfl
                              have o483 := o462.up l476 rfl
                              have o484 := o463.up l476 rfl
                              have o485 := o464.up l476 rfl
                              have o486 := o465.up l476 rfl
                              have o487 := o466.up l476 rfl
                              have o488 := o467.up l476 rfl
                              have o489 := o468.up l476 rfl
                              have o490 := o469.up l476 rfl
                              have o491 := o470.up l476 rfl
                              have o492 := o471.up l476 rfl
                              have o493 := o472.up l476 rfl
                              have o494 := o473.up l476 rfl
                              have o495 := f455_0.up l476 rfl
                              refine Lw.r rfl (R.mv (v := .tuple [v0_476, vB z474.2].toArray) rfl) (Lw.r rfl (R.ext (vs := [v0_476, vB z474.2]) (v := v0_476) rfl rfl) (Lw.r rfl (R.ext (vs := [v0_476, vB z474.2]) (v := vB z474.2) rfl rfl) (Lw.r rfl (R.as (v := v0_476) rfl) (Lw.r rfl (R.as (v := vB z474.2) rfl) ?_))))
                              refine Lw.nil ?_
                              refine Cw.seq ?_
                              obtain ⟨K498, hK498, hm⟩ := jn_e hm
                              refine Cw.join 148 156 [156] (fun l w => ∃ (y496 : Bool) (W497 : CW), W497.w = w ∧ Le [] W476 W497 ∧ l = [vB y496] ∧ K498 y496 = some r) ?_ ?_
                              · rintro _ _ σ ⟨y496, W497, rfl, l497, rfl, hm⟩
                                rw [hK498] at hm
                                have a499 : Le LL _ _ := l497.nil
                                have o500 := o478.up l497 rfl
                                have o501 := o479.up l497 rfl
                                have o502 := o480.up l497 rfl
                                have o503 := o481.up l497 rfl
                                have o504 := o482.up l497 rfl
                                have o505 := o483.up l497 rfl
                                have o506 := o484.up l497 rfl
                                have o507 := o485.up l497 rfl
                                have o508 := o486.up l497 rfl
                                have o509 := o487.up l497 rfl
                                have o510 := o488.up l497 rfl
                                have o511 := o489.up l497 rfl
                                have o512 := o490.up l497 rfl
                                have o513 := o491.up l497 rfl
                                have o514 := o492.up l497 rfl
                                have o515 := o493.up l497 rfl
                                have o516 := o494.up l497 rfl
                                have o517 := o495.up l497 rfl
                                have o518 := f476_0.up l497 rfl
                                refine Cw.cond (b := y496) rfl (fun hc519 => ?_) (fun hc519 => ?_)
                                · replace hm := bt hm hc519
                                  refine Cw.seq ?_
                                  refine Cw.region ?_
                                  refine Lw.r rfl (R.as (v := vB false) rfl) ?_
                                  refine Lw.nil ?_
                                  cases hm
                                  exact Cw.ret (ret1 rfl (Res.mk (a4.trans (a10.trans (a16.trans (a22.trans (a28.trans (a33.trans (a39.trans (a46.trans (a53.trans (a62.trans (a72.trans (a83.trans (a95.trans (a107.trans (a120.trans (a136.trans (a150.trans (a167.trans (a182.trans (a200.trans (a216.trans (a235.trans (a252.trans (a271.trans (a288.trans (a305.trans (a322.trans (a339.trans (a358.trans (a375.trans (a396.trans (a415.trans (a435.trans (a456.trans (a477.trans a499))))))))))))))))))))))))))))))))))) rfl))
                                · replace hm := bf hm hc519
                                  refine Cw.skip ?_
                                  refine Cw.seq ?_
                                  refine Cw.region ?_
                                  refine Lw.r rfl (R.as (v := vI 1) rfl) ?_
                                  refine Lw.nil ?_
                                  refine Cw.seq ?_
                                  refine Cw.region ?_
                                  refine Lw.r rfl (R.mv (v := v0_106) rfl) (Lw.r rfl (R.mv (v := vI 1) rfl) ?_)
                                  obtain ⟨z520, e521, hm⟩ := ob hm
                                  refine Lw.t rfl (T.call rfl (p42 (K := [11])  o509.rd e521)) ?_
                                  rintro _ _ ⟨W522, rfl, l522, rfl⟩
                                  have a523 : Le LL _ _ := l522.nil
                                  have o524 := o500.up l522 rfl
                                  have o525 := o501.up l522 rfl
                                  have o526 := o502.up l522 rfl
                                  have o527 := o503.up l522 rfl
                                  have o528 := o504.up l522 rfl
                                  have o529 := o505.up l522 rfl
                                  have o530 := o506.up l522 rfl
                                  have o531 := o507.up l522 rfl
                                  have o532 := o508.up l522 rfl
                                  have o533 := o509.up l522 rfl
                                  have o534 := o510.up l522 rfl
                                  have o535 := o511.up l522 rfl
                                  have o536 := o512.up l522 rfl
                                  have o537 := o513.up l522 rfl
                                  have o538 := o514.up l522 rfl
                                  have o539 := o515.up l522 rfl
                                  have o540 := o516.up l522 rfl
                                  have o541 := o517.up l522 rfl
                                  have o542 := o518.up l522 rfl
                                  refine Lw.r rfl (R.as (v := vI z520) rfl) ?_
                                  refine Lw.nil ?_
                                  refine Cw.seq ?_
                                  refine Cw.seq ?_
                                  refine Cw.region ?_
                                  refine Lw.r rfl (R.mv (v := vI z520) rfl) (Lw.r rfl (R.lt rfl rfl) ?_)
                                  refine Lw.nil ?_
                                  refine Cw.cond (b := decide ((z520 : Int) < (0 : Int))) rfl (fun hc543 => ?_) (fun hc543 => ?_)
                                  · replace hm := bt hm hc543
                                    refine Cw.seq ?_
                                    refine Cw.region ?_
                                    refine Lw.r rfl (R.as (v := vB false) rfl) ?_
                                    refine Lw.nil ?_
                                    cases hm
                                    exact Cw.ret (ret1 rfl (Res.mk (a4.trans (a10.trans (a16.trans (a22.trans (a28.trans (a33.trans (a39.trans (a46.trans (a53.trans (a62.trans (a72.trans (a83.trans (a95.trans (a107.trans (a120.trans (a136.trans (a150.trans (a167.trans (a182.trans (a200.trans (a216.trans (a235.trans (a252.trans (a271.trans (a288.trans (a305.trans (a322.trans (a339.trans (a358.trans (a375.trans (a396.trans (a415.trans (a435.trans (a456.trans (a477.trans (a499.trans a523)))))))))))))))))))))))))))))))))))) rfl))
                                  · replace hm := bf hm hc543
                                    refine Cw.skip ?_
                                    refine Cw.seq ?_
                                    refine Cw.seq ?_
                                    refine Cw.region ?_
                                    refine Lw.r rfl (R.mv (v := vI z520) rfl) (Lw.r rfl (R.mv (v := vI z355.1) rfl) (Lw.r rfl (R.ne rfl rfl) ?_))
                                    refine Lw.nil ?_
                                    refine Cw.cond (b := ((z520 : Int) != (z355.1 : Int))) rfl (fun hc544 => ?_) (fun hc544 => ?_)
                                    · replace hm := bt hm hc544
                                      refine Cw.seq ?_
                                      refine Cw.region ?_
                                      refine Lw.r rfl (R.as (v := vB false) rfl) ?_
                                      refine Lw.nil ?_
                                      cases hm
                                      exact Cw.ret (ret1 rfl (Res.mk (a4.trans (a10.trans (a16.trans (a22.trans (a28.trans (a33.trans (a39.trans (a46.trans (a53.trans (a62.trans (a72.trans (a83.trans (a95.trans (a107.trans (a120.trans (a136.trans (a150.trans (a167.trans (a182.trans (a200.trans (a216.trans (a235.trans (a252.trans (a271.trans (a288.trans (a305.trans (a322.trans (a339.trans (a358.trans (a375.trans (a396.trans (a415.trans (a435.trans (a456.trans (a477.trans (a499.trans a523)))))))))))))))))))))))))))))))))))) rfl))
                                    · replace hm := bf hm hc544
                                      refine Cw.skip ?_
                                      refine Cw.seq ?_
                                      refine Cw.region ?_
                                      refine Lw.r rfl (R.as (v := vB true) rfl) ?_
                                      refine Lw.nil ?_
                                      cases hm
                                      exact Cw.ret (ret1 rfl (Res.mk (a4.trans (a10.trans (a16.trans (a22.trans (a28.trans (a33.trans (a39.trans (a46.trans (a53.trans (a62.trans (a72.trans (a83.trans (a95.trans (a107.trans (a120.trans (a136.trans (a150.trans (a167.trans (a182.trans (a200.trans (a216.trans (a235.trans (a252.trans (a271.trans (a288.trans (a305.trans (a322.trans (a339.trans (a358.trans (a375.trans (a396.trans (a415.trans (a435.trans (a456.trans (a477.trans (a499.trans a523)))))))))))))))))))))))))))))))))))) rfl))
                              · refine Cw.region ?_
                                refine Lw.r rfl (R.mv (v := v0_476) rfl) (Lw.r rfl (R.mv (v := v0_52) rfl) ?_)
                                obtain ⟨z545, e546, hm⟩ := ob hm
                                refine Lw.t rfl (T.call rfl (p31 (K := [6, 20])  (f476_0.rd.sub (M := [6, 20]) rfl) (o482.rd.sub (M := [6, 20]) rfl) e546)) ?_
                                rintro _ _ ⟨W547, rfl, l547, rfl⟩
                                have a548 : Le LL _ _ := l547.nil
                                have o549 := o478.up l547 rfl
                                have o550 := o479.up l547 rfl
                                have o551 := o480.up l547 rfl
                                have o552 := o481.up l547 rfl
                                have o553 := o482.up l547 rfl
                                have o554 := o483.up l547 rfl
                                have o555 := o484.up l547 rfl
                                have o556 := o485.up l547 rfl
                                have o557 := o486.up l547 rfl
                                have o558 := o487.up l547 rfl
                                have o559 := o488.up l547 rfl
                                have o560 := o489.up l547 rfl
                                have o561 := o490.up l547 rfl
                                have o562 := o491.up l547 rfl
                                have o563 := o492.up l547 rfl
                                have o564 := o493.up l547 rfl
                                have o565 := o494.up l547 rfl
                                have o566 := o495.up l547 rfl
                                have o567 := f476_0.up l547 rfl
                                refine Lw.r rfl (R.not rfl) (Lw.r rfl (R.mv (v := vB (!z545)) rfl) ?_)
                                refine bsplit (!z545) (fun hc568 => ?_) (fun hc568 => ?_)
                                · replace hm := bt hm hc568
                                  refine Lw.pass' hc568 rfl rfl rfl rfl rfl rfl rfl ?_
                                  refine Lw.pass' hc568 rfl rfl rfl rfl rfl rfl rfl ?_
                                  refine Lw.pass' hc568 rfl rfl rfl rfl rfl rfl rfl ?_
                                  refine Lw.r rfl (R.pk hc568 rfl (v := vB true) rfl) ?_
                                  refine Lw.nil ?_
                                  refine ⟨?_, ⟨true, W547, rfl, l547, rfl, hm⟩⟩
                                  iterate 9 (refine Agree.up rfl ?_)
                                  exact Agree.refl _
                                · replace hm := bf hm hc568
                                  refine Lw.want' hc568 rfl rfl rfl rfl ?_
                                  refine Lw.r rfl (R.mv (v := vB z474.2) rfl) ?_
                                  refine Lw.want' hc568 rfl rfl rfl rfl ?_
                                  refine Lw.r rfl (R.mv (v := vB z50.2) rfl) ?_
                                  refine Lw.want' hc568 rfl rfl rfl rfl ?_
                                  refine Lw.r rfl (R.bne rfl rfl) (Lw.r rfl (R.pk hc568 rfl (v := vB (z474.2 != z50.2)) rfl) ?_)
                                  refine Lw.nil ?_
                                  refine ⟨?_, ⟨(z474.2 != z50.2), W547, rfl, l547, rfl, hm⟩⟩
                                  iterate 9 (refine Agree.up rfl ?_)
                                  exact Agree.refl _
                      · refine Cw.region ?_
                        refine Lw.r rfl (R.mv (v := vI z319.1) rfl) (Lw.r rfl (R.lt rfl rfl) (Lw.r rfl (R.mv (v := vB (decide ((z319.1 : Int) < (0 : Int)))) rfl) ?_))
                        refine bsplit (decide ((z319.1 : Int) < (0 : Int))) (fun hc569 => ?_) (fun hc569 => ?_)
                        · replace hm := bt hm hc569
                          refine Lw.pass' hc569 rfl rfl rfl rfl rfl rfl rfl ?_
                          refine Lw.pass' hc569 rfl rfl rfl rfl rfl rfl rfl ?_
                          refine Lw.pass' hc569 rfl rfl rfl rfl rfl rfl rfl ?_
                          refine Lw.pass' hc569 rfl rfl rfl rfl rfl rfl rfl ?_
                          refine Lw.r rfl (R.pk hc569 rfl (v := vB true) rfl) (Lw.r rfl (R.mv (v := vB true) rfl) ?_)
                          refine Lw.pass' rfl rfl rfl rfl rfl rfl rfl rfl ?_
                          refine Lw.pass' rfl rfl rfl rfl rfl rfl rfl rfl ?_
                          refine Lw.pass' rfl rfl rfl rfl rfl rfl rfl rfl ?_
                          refine Lw.r rfl (R.pk rfl rfl (v := vB true) rfl) ?_
                          refine Lw.nil ?_
                          refine ⟨?_, ⟨true, W321, rfl, Le.refl _ _, rfl, hm⟩⟩
                          iterate 13 (refine Agree.up rfl ?_)
                          exact Agree.refl _
                        · replace hm := bf hm hc569
                          refine Lw.want' hc569 rfl rfl rfl rfl ?_
                          refine Lw.r rfl (R.mv (v := v0_106) rfl) ?_
                          refine Lw.want' hc569 rfl rfl rfl rfl ?_
                          refine Lw.r rfl (R.mv (v := v0_52) rfl) ?_
                          refine Lw.want' hc569 rfl rfl rfl rfl ?_
                          obtain ⟨z570, e571, hm⟩ := ob hm
                          refine Lw.t rfl (T.call rfl (p31 (K := [6, 11])  (o331.rd.sub (M := [6, 11]) rfl) (o327.rd.sub (M := [6, 11]) rfl) e571)) ?_
                          rintro _ _ ⟨W572, rfl, l572, rfl⟩
                          have a573 : Le LL _ _ := l572.nil
                          have o574 := o323.up l572 rfl
                          have o575 := o324.up l572 rfl
                          have o576 := o325.up l572 rfl
                          have o577 := o326.up l572 rfl
                          have o578 := o327.up l572 rfl
                          have o579 := o328.up l572 rfl
                          have o580 := o329.up l572 rfl
                          have o581 := o330.up l572 rfl
                          have o582 := f321_0.up l572 rfl
                          have o583 := o331.up l572 rfl
                          have o584 := o332.up l572 rfl
                          have o585 := o333.up l572 rfl
                          have o586 := o334.up l572 rfl
                          have o587 := o335.up l572 rfl
                          refine Lw.want' hc569 rfl rfl rfl rfl ?_
                          refine Lw.r rfl (R.not rfl) (Lw.r rfl (R.pk hc569 rfl (v := vB (!z570)) rfl) (Lw.r rfl (R.mv (v := vB (!z570)) rfl) ?_))
                          refine bsplit (!z570) (fun hc588 => ?_) (fun hc588 => ?_)
                          · replace hm := bt hm hc588
                            refine Lw.pass' hc588 rfl rfl rfl rfl rfl rfl rfl ?_
                            refine Lw.pass' hc588 rfl rfl rfl rfl rfl rfl rfl ?_
                            refine Lw.pass' hc588 rfl rfl rfl rfl rfl rfl rfl ?_
                            refine Lw.r rfl (R.pk hc588 rfl (v := vB true) rfl) ?_
                            refine Lw.nil ?_
                            refine ⟨?_, ⟨true, W572, rfl, l572, rfl, hm⟩⟩
                            iterate 13 (refine Agree.up rfl ?_)
                            exact Agree.refl _
                          · replace hm := bf hm hc588
                            refine Lw.want' hc588 rfl rfl rfl rfl ?_
                            refine Lw.r rfl (R.mv (v := vB z104.2) rfl) ?_
                            refine Lw.want' hc588 rfl rfl rfl rfl ?_
                            refine Lw.r rfl (R.mv (v := vB z50.2) rfl) ?_
                            refine Lw.want' hc588 rfl rfl rfl rfl ?_
                            refine Lw.r rfl (R.bne rfl rfl) (Lw.r rfl (R.pk hc588 rfl (v := vB (z104.2 != z50.2)) rfl) ?_)
                            refine Lw.nil ?_
                            refine ⟨?_, ⟨(z104.2 != z50.2), W572, rfl, l572, rfl, hm⟩⟩
                            iterate 13 (refine Agree.up rfl ?_)
                            exact Agree.refl _
          · refine Cw.region ?_
            refine Lw.r rfl (R.mv (v := v0_106) rfl) (Lw.r rfl (R.mv (v := v0_52) rfl) ?_)
            obtain ⟨z589, e590, hm⟩ := ob hm
            refine Lw.t rfl (T.call rfl (p31 (K := [6, 11])  (f106_0.rd.sub (M := [6, 11]) rfl) (o112.rd.sub (M := [6, 11]) rfl) e590)) ?_
            rintro _ _ ⟨W591, rfl, l591, rfl⟩
            have a592 : Le LL _ _ := l591.nil
            have o593 := o108.up l591 rfl
            have o594 := o109.up l591 rfl
            have o595 := o110.up l591 rfl
            have o596 := o111.up l591 rfl
            have o597 := o112.up l591 rfl
            have o598 := o113.up l591 rfl
            have o599 := o114.up l591 rfl
            have o600 := o115.up l591 rfl
            have o601 := o116.up l591 rfl
            have o602 := f106_0.up l591 rfl
            refine Lw.r rfl (R.not rfl) (Lw.r rfl (R.mv (v := vB (!z589)) rfl) ?_)
            refine bsplit (!z589) (fun hc603 => ?_) (fun hc603 => ?_)
            · replace hm := bt hm hc603
              refine Lw.pass' hc603 rfl rfl rfl rfl rfl rfl rfl ?_
              refine Lw.pass' hc603 rfl rfl rfl rfl rfl rfl rfl ?_
              refine Lw.pass' hc603 rfl rfl rfl rfl rfl rfl rfl ?_
              refine Lw.r rfl (R.pk hc603 rfl (v := vB true) rfl) ?_
              refine Lw.nil ?_
              refine ⟨?_, ⟨true, W591, rfl, l591, rfl, hm⟩⟩
              iterate 9 (refine Agree.up rfl ?_)
              exact Agree.refl _
            · replace hm := bf hm hc603
              refine Lw.want' hc603 rfl rfl rfl rfl ?_
              refine Lw.r rfl (R.mv (v := vB z104.2) rfl) ?_
              refine Lw.want' hc603 rfl rfl rfl rfl ?_
              refine Lw.r rfl (R.mv (v := vB z50.2) rfl) ?_
              refine Lw.want' hc603 rfl rfl rfl rfl ?_
              refine Lw.r rfl (R.bne rfl rfl) (Lw.r rfl (R.pk hc603 rfl (v := vB (z104.2 != z50.2)) rfl) ?_)
              refine Lw.nil ?_
              refine ⟨?_, ⟨(z104.2 != z50.2), W591, rfl, l591, rfl, hm⟩⟩
              iterate 9 (refine Agree.up rfl ?_)
              exact Agree.refl _

theorem p8 {W : CW} {K : List Nat} {x0 : List Vm.Memo} {v0_ : Value} {x1 : List Str} {v1_ : Value} {x2 : List Str} {v2_ : Value} {x3 : List Str} {v3_ : Value} {r : Bool} (h0 : Rd W K [v0_] x0) (h1 : Rd W K [v1_] x1) (h2 : Rd W K [v2_] x2) (h3 : Rd W K [v3_] x3) (hm : Vm.laws_FnExactMemoText x0 x1 x2 x3 = some r) : CallR Try.prog 8 [v0_, v1_, v2_, v3_].toArray W.w (Res W [] fun W' v => v = vB r) :=
  (c8 (V := W.view K []) (h0.view _) (h1.view _) (h2.view _) (h3.view _) hm).ad (fk 0) fun _ _ e => e

theorem c44 {V : CW} {x0 : List Byte} {v0_ : Value} {r : (List Vm.Memo) × (List Str) × (List Str) × (List Str)} (h0 : Rd V [0] [v0_] x0) (hm : Vm.spec_DrawMemoText x0 = some r) : CallR Try.prog 44 [v0_].toArray V.w (Res V LL fun Wf v => ∃ (u0 : Value) (u1 : Value) (u2 : Value) (u3 : Value), v = .tuple [u0, u1, u2, u3].toArray ∧ OwS Wf [31] [] [u0] r.1 ∧ OwS Wf [32] [] [u1] r.2.1 ∧ OwS Wf [33] [] [u2] r.2.2.1 ∧ OwS Wf [34] [] [u3] r.2.2.2) := by
  unfold Vm.spec_DrawMemoText at hm
  obtain ⟨W0, hW0⟩ : ∃ W, W = V := ⟨V, rfl⟩
  subst hW0
  refine CallR.of Try.func44 rfl rfl rfl rfl ?_
  refine Cw.seq ?_
  refine Cw.region ?_
  refine Lw.r rfl (R.as (v := .slice none 0 0) rfl) (Lw.r rfl (R.as (v := .slice none 0 0) rfl) (Lw.r rfl (R.as (v := .slice none 0 0) rfl) (Lw.r rfl (R.as (v := .slice none 0 0) rfl) ?_)))
  refine Lw.nil ?_
  refine Cw.seq ?_
  refine Cw.region ?_
  refine Lw.r rfl (R.mv (v := v0_) rfl) ?_
  obtain ⟨z1, e2, hm⟩ := ob hm
  refine Lw.t rfl (T.call rfl (p58 (K := [0]) (k0 := 2) h0 e2)) ?_
  rintro _ _ ⟨W3, rfl, l3, ⟨g0_3, v0_0_3, rfl, f3_0, f3_1⟩⟩
  have s4 := f3_1.sub (M := [0]) rfl
  have a5 : Le LL _ _ := l3.nil
  refine Lw.r rfl (R.as (v := ptr (bx g0_3)) rfl) ?_
  refine Lw.nil ?_
  refine Cw.seq ?_
  refine Cw.region ?_
  refine Lw.r rfl (R.mv (v := ptr (bx g0_3)) rfl) ?_
  obtain ⟨z6, e7, hm⟩ := ob hm
  refine Lw.t rfl (T.call rfl (p59 (K := [0]) (k0 := 3) (c0 := 2) (x0 := z1) f3_0 s4 rfl e7)) ?_
  rintro v0_8 _ ⟨W8, rfl, l8, ⟨_, rfl, f8_0, f8_1⟩⟩
  have a9 : Le LL _ _ := l8.sub rfl
  refine Lw.r rfl (R.as (v := v0_8) rfl) ?_
  refine Lw.nil ?_
  refine Cw.seq ?_
  refine Cw.region ?_
  refine Lw.r rfl (R.mv (v := ptr (bx g0_3)) rfl) ?_
  have s10 := s4.ul a9
  obtain ⟨z11, e12, hm⟩ := ob hm
  refine Lw.t rfl (T.call rfl (p77 (K := [0]) (k0 := 4) (c0 := 2) (x0 := (Vm.l30Rd.mk z1.b z6.2)) f8_1 s10 rfl e12)) ?_
  rintro v0_13 _ ⟨W13, rfl, l13, ⟨_, rfl, f13_0, f13_1⟩⟩
  have a14 : Le LL _ _ := l13.sub rfl
  have o15 := f8_0.up l13 rfl
  refine Lw.r rfl (R.as (v := v0_13) rfl) ?_
  refine Lw.nil ?_
  refine Cw.seq ?_
  refine Cw.region ?_
  refine Lw.r rfl (R.mv (v := ptr (bx g0_3)) rfl) (Lw.r rfl (R.mv (v := v0_13) rfl) ?_)
  have s16 := s4.ul (a9.trans a14)
  obtain ⟨z17, e18, hm⟩ := ob hm
  refine Lw.t rfl (T.call rfl (p78 (K := [0, 4]) (k0 := 5) (c0 := 2) (x0 := (Vm.l30Rd.mk z1.b z11.2)) f13_1 (s16.sub (M := [0, 4]) rfl) (f13_0.rd.sub (M := [0, 4]) rfl) rfl e18)) ?_
  rintro v0_19 _ ⟨W19, rfl, l19, ⟨_, rfl, f19_0, f19_1⟩⟩
  have a20 : Le LL _ _ := l19.sub rfl
  have o21 := o15.up l19 rfl
  have o22 := f13_0.up l19 rfl
  refine Lw.r rfl (R.as (v := v0_19) rfl) ?_
  refine Lw.nil ?_
  refine Cw.seq ?_
  refine Cw.region ?_
  refine Lw.r rfl (R.mv (v := ptr (bx g0_3)) rfl) (Lw.r rfl (R.mv (v := v0_13) rfl) ?_)
  have s23 := s4.ul (a9.trans (a14.trans a20))
  obtain ⟨z24, e25, hm⟩ := ob hm
  refine Lw.t rfl (T.call rfl (p78 (K := [0, 4]) (k0 := 6) (c0 := 2) (x0 := (Vm.l30Rd.mk z1.b z17.2)) f19_1 (s23.sub (M := [0, 4]) rfl) (o22.rd.sub (M := [0, 4]) rfl) rfl e25)) ?_
  rintro v0_26 _ ⟨W26, rfl, l26, ⟨_, rfl, f26_0, f26_1⟩⟩
  have a27 : Le LL _ _ := l26.sub rfl
  have o28 := o21.up l26 rfl
  have o29 := o22.up l26 rfl
  have o30 := f19_0.up l26 rfl
  refine Lw.r rfl (R.as (v := v0_26) rfl) ?_
  refine Lw.nil ?_
  refine Cw.seq ?_
  refine Cw.region ?_
  refine Lw.r rfl (R.mv (v := v0_13) rfl) (Lw.r rfl (R.mv (v := v0_19) rfl) (Lw.r rfl (R.mv (v := v0_26) rfl) ?_))
  obtain ⟨z31, e32, hm⟩ := ob hm
  refine Lw.t rfl (T.call rfl (p35 (K := [4, 5, 6]) (k0 := 7) (o29.rd.sub (M := [4, 5, 6]) rfl) (o30.rd.sub (M := [4, 5, 6]) rfl) (f26_0.rd.sub (M := [4, 5, 6]) rfl) e32)) ?_
  rintro v0_33 _ ⟨W33, rfl, l33, ⟨_, rfl, f33_0⟩⟩
  have a34 : Le LL _ _ := l33.nil
  have o35 := o28.up l33 rfl
  have o36 := o29.up l33 rfl
  have o37 := o30.up l33 rfl
  have o38 := f26_0.up l33 rfl
  have b39 := f26_1.up l33 rfl
  refine Lw.r rfl (R.as (v := v0_33) rfl) ?_
  refine Lw.nil ?_
  refine Cw.seq ?_
  refine Cw.seq ?_
  refine Cw.region ?_
  refine Lw.r rfl (R.as (v := vI 0) rfl) ?_
  refine Lw.nil ?_
  refine Cw.block ?_
  obtain ⟨K52, hK52, hm⟩ := jn_e hm
  have s53 := s4.ul (a9.trans (a14.trans (a20.trans (a27.trans a34))))
  refine Cw.loop 31 71 [7, 12, 13, 14] (fun m l w => ∃ (y40 : List Vm.Memo) (y43 : Int) (y46 : List Byte) (y49 : Int) (v41 j44 j45 v47 : Value) (W51 : CW), W51.w = w ∧ Le [2, 9] W33 W51 ∧ l = [v41, vI y43, j44, j45] ∧ Ow W51 3 [] [v41] y40 ∧ Rd W51 [0] [v47] y46 ∧ Bx W51 2 g0_3 [v47, vI y49] ∧ Vm.spec_DrawMemoText_l1 z31 K52 m y40 y43 y46 y49 = some r) (((z31.length : Int) - 0).toNat + 1) ⟨z6.1, 0, z1.b, z24.2, v0_8, undef, undef, v0_0_3, W33, rfl, Le.refl _ _, rfl, o35, s53, b39, hm⟩ ?_
  rintro m54 _ _ σ ⟨y40, y43, y46, y49, v41, j44, j45, v47, W51, rfl, l51, rfl, o42, r48, b50, hm⟩
  obtain _ | m54 := m54
  · cases hm
  unfold Vm.spec_DrawMemoText_l1 at hm
  have a55 : Le LL _ _ := l51.sub rfl
  have o56 := o36.up l51 rfl
  have o57 := o37.up l51 rfl
  have o58 := o38.up l51 rfl
  have o59 := f33_0.up l51 rfl
  refine Cw.seq ?_
  refine Cw.seq ?_
  refine Cw.region ?_
  refine Lw.r rfl (R.mv (v := vI y43) rfl) (Lw.r rfl (R.mv (v := v0_33) rfl) (Lw.r rfl (lenR (xs := z31) o59.rd rfl) (Lw.r rfl (R.lt rfl rfl) ?_)))
  refine Lw.nil ?_
  refine Cw.cond (b := decide ((y43 : Int) < ((z31.length : Int) : Int))) rfl (fun hc60 => ?_) (fun hc60 => ?_)
  · replace hm := bt hm hc60
    refine Cw.skip ?_
    obtain ⟨K72, hK72, hm⟩ := jn_e hm
    refine Cw.join 37 71 [7, 13, 14] (fun l w => ∃ (y61 : List Vm.Memo) (y66 : List Byte) (y69 : Int) (v62 j64 j65 v67 : Value) (W71 : CW), W71.w = w ∧ Le [2, 9] W51 W71 ∧ l = [v62, j64, j65] ∧ Ow W71 3 [] [v62] y61 ∧ Rd W71 [0] [v67] y66 ∧ Bx W71 2 g0_3 [v67, vI y69] ∧ K72 y61 y66 y69 = some r) ?_ ?_
    · rintro _ _ σ ⟨y61, y66, y69, v62, j64, j65, v67, W71, rfl, l71, rfl, o63, r68, b70, hm⟩
      rw [hK72] at hm
      have a73 : Le LL _ _ := l71.sub rfl
      have o74 := o56.up l71 rfl
      have o75 := o57.up l71 rfl
      have o76 := o58.up l71 rfl
      have o77 := o59.up l71 rfl
      refine Cw.region ?_
      refine Lw.r rfl (R.mv (v := vI y43) rfl) (Lw.r rfl (R.add rfl rfl) (Lw.r rfl (R.as (v := vI (w64 (y43 + 1))) rfl) ?_))
      refine Lw.nil ?_
      refine ⟨?_, m54, Nat.lt_succ_self m54, ⟨y61, w64 (y43 + 1), y66, y69, v62, j64, j65, v67, W71, rfl, (l51.trans l71), rfl, o63, r68, b70, hm⟩⟩
      iterate 3 (refine Agree.up rfl ?_)
      iterate 3 (refine Agree.up rfl ?_)
      refine Agree.ov0 rfl ?_
      iterate 4 (refine Agree.up rfl ?_)
      iterate 4 (refine Agree.up rfl ?_)
      exact Agree.base
    · refine Cw.block ?_
      obtain ⟨K85, hK85, hm⟩ := jn_e hm
      refine Cw.join 37 46 [46] (fun l w => ∃ (y78 : Bool) (y79 : List Byte) (y82 : Int) (v80 : Value) (W84 : CW), W84.w = w ∧ Le [2] W51 W84 ∧ l = [vB y78] ∧ Rd W84 [0] [v80] y79 ∧ Bx W84 2 g0_3 [v80, vI y82] ∧ K85 y78 y79 y82 = some r) ?_ ?_
      · rintro _ _ σ ⟨y78, y79, y82, v80, W84, rfl, l84, rfl, r81, b83, hm⟩
        rw [hK85] at hm
        have a86 : Le LL _ _ := l84.sub rfl
        have o87 := o42.up l84 rfl
        have o88 := o56.up l84 rfl
        have o89 := o57.up l84 rfl
        have o90 := o58.up l84 rfl
        have o91 := o59.up l84 rfl
        refine Cw.cond (b := y78) rfl (fun hc92 => ?_) (fun hc92 => ?_)
        · replace hm := bt hm hc92
          refine Cw.seq ?_
          refine Cw.draw [2] [(0, 0), (1, 0), (2, 0), (3, 0), (4, 0), (5, 1), (6, 0), (7, 0), (8, 0), (9, 0), (10, 1), (11, 0), (12, 0), (13, 0), (14, 0), (15, 1), (16, 0), (17, 2), (18, 0), (19, 2), (20, 0), (21, 0), (22, 0), (23, 0), (24, 0)] mixed (by kernel_rfl) fun W93 l93 => ?_
          have a94 : Le LL _ _ := l93.nil
          have o95 := o87.up l93 rfl
          have o96 := o88.up l93 rfl
          have o97 := o89.up l93 rfl
          have o98 := o90.up l93 rfl
          have o99 := o91.up l93 rfl
          have b100 := b83.up l93 rfl
          refine Mw.p rfl rfl (fun _ => R.mv (v := v41) rfl) (Mw.p rfl rfl (fun _ => R.mv (v := v0_33) rfl) (Mw.p rfl rfl (fun _ => R.mv (v := vI y43) rfl) ?_))
          obtain ⟨u101, e102, hm⟩ := ob hm
          refine Mw.p rfl rfl (fun _ => R.ix (α := Part) o99.rd e102 rfl rfl rfl) (Mw.p rfl rfl (fun _ => R.fa rfl) ?_)
          obtain ⟨v103, c104, r105⟩ := (Part.at2 (o99.rd.at_ e102)).cell rfl
          refine Mw.q rfl rfl (fun _ c => R.ld rfl rfl (cl_cell (Part.at2 (o99.rd.at_ e102)).1 rfl c104 c)) (Mw.p rfl rfl (fun _ => R.mv (v := v0_33) rfl) (Mw.p rfl rfl (fun _ => R.mv (v := vI y43) rfl) ?_))
          obtain ⟨u106, e107, hm⟩ := ob hm
          refine Mw.p rfl rfl (fun _ => R.ix (α := Part) o99.rd e107 rfl rfl rfl) (Mw.p rfl rfl (fun _ => R.fa rfl) ?_)
          obtain ⟨v108, c109, r110⟩ := (Part.at4 (o99.rd.at_ e107)).cell rfl
          refine Mw.q rfl rfl (fun _ c => R.ld rfl rfl (cl_cell (Part.at4 (o99.rd.at_ e107)).1 rfl c109 c)) (Mw.p rfl rfl (fun _ => R.mv (v := v0_33) rfl) (Mw.p rfl rfl (fun _ => R.mv (v := vI y43) rfl) ?_))
          obtain ⟨u111, e112, hm⟩ := ob hm
          refine Mw.p rfl rfl (fun _ => R.ix (α := Part) o99.rd e112 rfl rfl rfl) (Mw.p rfl rfl (fun _ => R.fa rfl) ?_)
          obtain ⟨v113, c114, r115⟩ := (Part.at3 (o99.rd.at_ e112)).cell rfl
          refine Mw.q rfl rfl (fun _ c => R.ld rfl rfl (cl_cell (Part.at3 (o99.rd.at_ e112)).1 rfl c114 c)) (Mw.p rfl rfl (fun _ => R.mv (v := ptr (bx g0_3)) rfl) ?_)
          have s116 := r81.ul a94
          obtain ⟨z117, e118, hm⟩ := ob hm
          refine Mw.t rfl rfl (T.call rfl (p80 (K := [0]) (k0 := 8) (c0 := 2) (x0 := (Vm.l30Rd.mk y79 y82)) b100 s116 rfl e118)) ?_
          rintro v0_119 _ ⟨W119, rfl, l119, ⟨_, rfl, f119_0, f119_1⟩⟩
          have a120 : Le LL _ _ := l119.sub rfl
          have o121 := o95.up l119 rfl
          have o122 := o96.up l119 rfl
          have o123 := o97.up l119 rfl
          have o124 := o98.up l119 rfl
          have o125 := o99.up l119 rfl
          refine ⟨⟨_, rfl, (l119.sub (M := [2]) rfl)⟩, ?_⟩
          refine Mw.p rfl rfl (fun _ => R.bd (zs := [.slice none 0 0, .slice none 0 0, .slice none 0 0, .slice none 0 0]) (cs := [v103, v108, v113, v0_119]) [(0, v103), (1, v108), (2, v113), (3, v0_119)] rfl rfl rfl (bp_cons r105.oc rfl (bp_cons r110.oc rfl (bp_cons r115.oc rfl (bp_cons f119_0.oc rfl bp_nil))))) ?_
          have s126 := r105.up (l119.sub (M := [2]) rfl) rfl
          have s127 := r110.up (l119.sub (M := [2]) rfl) rfl
          have s128 := r115.up (l119.sub (M := [2]) rfl) rfl
          obtain ⟨z129, e130, hm⟩ := ob hm
          refine Mw.t rfl rfl (T.call rfl (p19 (K := [3, 7, 8]) (k0 := 9) (o121.rd.sub (M := [3, 7, 8]) rfl) ((Memo.rd (K := [7, 8]) u101.Old u106.Two u111.One z117.1 (s126.sub (M := [7, 8]) rfl) (s127.sub (M := [7, 8]) rfl) (s128.sub (M := [7, 8]) rfl) (f119_0.rd.sub (M := [7, 8]) rfl)).sub (M := [3, 7, 8]) rfl) e130)) ?_
          rintro _ _ ⟨W131, rfl, l131, ⟨v0_131, rfl, f131_0⟩⟩
          have a132 : Le LL _ _ := l131.nil
          have o133 := o121.up l131 rfl
          have o134 := o122.up l131 rfl
          have o135 := o123.up l131 rfl
          have o136 := o124.up l131 rfl
          have o137 := o125.up l131 rfl
          have o138 := f119_0.up l131 rfl
          have b139 := f119_1.up l131 rfl
          refine ⟨⟨_, rfl, ((l119.sub (M := [2]) rfl).trans (l131.sub (M := [2]) rfl))⟩, ?_⟩
          refine Mw.p rfl rfl (fun _ => R.mv (v := .tuple [v0_131, vB z129.2].toArray) rfl) (Mw.p rfl rfl (fun _ => R.ext (vs := [v0_131, vB z129.2]) (v := v0_131) rfl rfl) (Mw.p rfl rfl (fun _ => R.ext (vs := [v0_131, vB z129.2]) (v := vB z129.2) rfl rfl) (Mw.p rfl rfl (fun _ => R.as (v := v0_131) rfl) (Mw.p rfl rfl (fun _ => R.as (v := vB z129.2) rfl) ?_))))
          refine Mw.nil ?_
          refine Cw.seq ?_
          refine Cw.region ?_
          refine Lw.r rfl (R.mv (v := vB z129.2) rfl) ?_
          refine Lw.nil ?_
          refine Cw.cond (b := z129.2) rfl (fun hc140 => ?_) (fun hc140 => ?_)
          · replace hm := bt hm hc140
            refine Cw.region ?_
            refine Lw.r rfl (R.mv (v := v0_131) rfl) (Lw.r rfl (R.as (v := v0_131) rfl) ?_)
            refine Lw.nil ?_
            obtain ⟨W141, ew141, l141, o141⟩ := f131_0.dyeO 3
            have a142 : Le LL _ _ := l141.sub rfl
            have o143 := o134.up l141 rfl
            have o144 := o135.up l141 rfl
            have o145 := o136.up l141 rfl
            have o146 := o137.up l141 rfl
            have o147 := o138.up l141 rfl
            have b148 := b139.up l141 rfl
            have s149 := r81.ul (a94.trans (a120.trans (a132.trans a142)))
            refine ⟨?_, ⟨z129.1, y79, z117.2, v0_131, v0_131, vB z129.2, v80, W141, ew141, ((l84.sub rfl).trans ((l93.sub rfl).trans ((l119.sub rfl).trans ((l131.sub rfl).trans (l141.sub rfl))))), rfl, o141, s149, b148, hm⟩⟩
            iterate 28 (refine Agree.up rfl ?_)
            iterate 1 (refine Agree.up rfl ?_)
            refine Agree.ov0 rfl ?_
            exact Agree.refl _
          · replace hm := bf hm hc140
            refine Cw.skip ?_
            have s150 := r81.ul (a94.trans (a120.trans a132))
            refine ⟨?_, ⟨y40, y79, z117.2, v41, v0_131, vB z129.2, v80, W131, rfl, ((l84.sub rfl).trans ((l93.sub rfl).trans ((l119.sub rfl).trans (l131.sub rfl)))), rfl, o133, s150, b139, hm⟩⟩
            iterate 26 (refine Agree.up rfl ?_)
            iterate 1 (refine Agree.up rfl ?_)
            refine Agree.ov0 rfl ?_
            exact Agree.refl _
        · replace hm := bf hm hc92
          refine Cw.skip ?_
          refine ⟨?_, ⟨y40, y79, y82, v41, j44, j45, v80, W84, rfl, (l84.sub rfl), rfl, o87, r81, b83, hm⟩⟩
          iterate 1 (refine Agree.up rfl ?_)
          refine Agree.ov0 rfl ?_
          exact Agree.refl _
      · refine Cw.region ?_
        refine Lw.r rfl (R.mv (v := v0_33) rfl) (Lw.r rfl (R.mv (v := vI y43) rfl) ?_)
        obtain ⟨u151, e152, hm⟩ := ob hm
        refine Lw.r rfl (R.ix (α := Part) o59.rd e152 rfl rfl rfl) (Lw.r rfl (R.fa rfl) (Lw.r rfl (R.ld rfl rfl (Part.at0 (o59.rd.at_ e152)).bool) (Lw.r rfl (R.mv (v := vB u151.Clash) rfl) ?_)))
        refine bsplit u151.Clash (fun hc153 => ?_) (fun hc153 => ?_)
        · replace hm := bt hm hc153
          refine Lw.want' hc153 rfl rfl rfl rfl ?_
          refine Lw.r rfl (R.mv (v := ptr (bx g0_3)) rfl) ?_
          refine Lw.want' hc153 rfl rfl rfl rfl ?_
          obtain ⟨z154, e155, hm⟩ := ob hm
          refine Lw.t rfl (T.call rfl (p79 (K := [0])  (c0 := 2) (x0 := (Vm.l30Rd.mk y46 y49)) b50 r48 rfl e155)) ?_
          rintro _ _ ⟨W156, rfl, l156, ⟨rfl, f156_0⟩⟩
          have a157 : Le LL _ _ := l156.sub rfl
          have o158 := o42.up l156 rfl
          have o159 := o56.up l156 rfl
          have o160 := o57.up l156 rfl
          have o161 := o58.up l156 rfl
          have o162 := o59.up l156 rfl
          refine Lw.want' hc153 rfl rfl rfl rfl ?_
          refine Lw.r rfl (R.gt rfl rfl) (Lw.r rfl (R.pk hc153 rfl (v := vB (decide ((0 : Int) < (z154.1 : Int)))) rfl) ?_)
          refine Lw.nil ?_
          have s163 := r48.ul a157
          refine ⟨?_, ⟨decide ((0 : Int) < (z154.1 : Int)), y46, z154.2, v47, W156, rfl, l156, rfl, s163, f156_0, hm⟩⟩
          iterate 10 (refine Agree.up rfl ?_)
          exact Agree.refl _
        · replace hm := bf hm hc153
          refine Lw.pass' hc153 rfl rfl rfl rfl rfl rfl rfl ?_
          refine Lw.pass' hc153 rfl rfl rfl rfl rfl rfl rfl ?_
          refine Lw.pass' hc153 rfl rfl rfl rfl rfl rfl rfl ?_
          refine Lw.r rfl (R.pk hc153 rfl (v := vB false) rfl) ?_
          refine Lw.nil ?_
          refine ⟨?_, ⟨false, y46, y49, v47, W51, rfl, Le.refl _ _, rfl, r48, b50, hm⟩⟩
          iterate 10 (refine Agree.up rfl ?_)
          exact Agree.refl _
  · replace hm := bf hm hc60
    refine Cw.exit ?_
    rw [hK52] at hm
    refine Cw.seq ?_
    refine Cw.region ?_
    refine Lw.r rfl (R.mv (v := v41) rfl) (Lw.r rfl (R.mv (v := v0_13) rfl) (Lw.r rfl (R.mv (v := v0_19) rfl) (Lw.r rfl (R.mv (v := v0_26) rfl) (Lw.r rfl (R.as (v := v41) rfl) (Lw.r rfl (R.as (v := v0_13) rfl) (Lw.r rfl (R.as (v := v0_19) rfl) (Lw.r rfl (R.as (v := v0_26) rfl) ?_)))))))
    refine Lw.nil ?_
    obtain ⟨W164, ew164, l164, o164⟩ := o42.dyeO 31
    have a165 : Le LL _ _ := l164.sub rfl
    have o166 := o56.up l164 rfl
    have o167 := o57.up l164 rfl
    have o168 := o58.up l164 rfl
    have o169 := o59.up l164 rfl
    have b170 := b50.up l164 rfl
    obtain ⟨W171, ew171, l171, o171⟩ := o166.dyeO 32
    have a172 : Le LL _ _ := l171.sub rfl
    have o173 := o167.up l171 rfl
    have o174 := o168.up l171 rfl
    have o175 := o169.up l171 rfl
    have o176 := o164.up l171 rfl
    have b177 := b170.up l171 rfl
    obtain ⟨W178, ew178, l178, o178⟩ := o173.dyeO 33
    have a179 : Le LL _ _ := l178.sub rfl
    have o180 := o174.up l178 rfl
    have o181 := o175.up l178 rfl
    have o182 := o176.up l178 rfl
    have o183 := o171.up l178 rfl
    have b184 := b177.up l178 rfl
    obtain ⟨W185, ew185, l185, o185⟩ := o180.dyeO 34
    have a186 : Le LL _ _ := l185.sub rfl
    have o187 := o181.up l185 rfl
    have o188 := o182.up l185 rfl
    have o189 := o183.up l185 rfl
    have o190 := o178.up l185 rfl
    have b191 := b184.up l185 rfl
    cases hm
    rw [← ew185.trans (ew178.trans (ew171.trans (ew164)))]
    exact Cw.ret (ret4 rfl rfl rfl rfl (Res.mk (a5.trans (a9.trans (a14.trans (a20.trans (a27.trans (a34.trans (a55.trans (a165.trans (a172.trans (a179.trans a186)))))))))) ⟨v41, v0_13, v0_19, v0_26, rfl, o188.s, o189.s, o190.s, o185.s⟩))

theorem p44 {W : CW} {K : List Nat} {x0 : List Byte} {v0_ : Value} {k0 : Nat} {k1 : Nat} {k2 : Nat} {k3 : Nat} {r : (List Vm.Memo) × (List Str) × (List Str) × (List Str)} (h0 : Rd W K [v0_] x0) (hm : Vm.spec_DrawMemoText x0 = some r) : CallR Try.prog 44 [v0_].toArray W.w (Res W [] fun W' v => ∃ (u0 : Value) (u1 : Value) (u2 : Value) (u3 : Value), v = .tuple [u0, u1, u2, u3].toArray ∧ Ow W' k0 [] [u0] r.1 ∧ Ow W' k1 [] [u1] r.2.1 ∧ Ow W' k2 [] [u2] r.2.2.1 ∧ Ow W' k3 [] [u3] r.2.2.2) :=
  CallR.adJ (J := []) (fun c => bif Nat.beq c 0 then 0 else bif Nat.beq c 31 then k0 else bif Nat.beq c 32 then k1 else bif Nat.beq c 33 then k2 else bif Nat.beq c 34 then k3 else 0) (c44 (V := W.view K []) (h0.view _) hm) fun _ _ ⟨u0, u1, u2, u3, e, f0, f1, f2, f3⟩ => ⟨u0, u1, u2, u3, e, f0.one1.backN rfl, f1.one1.backN rfl, f2.one1.backN rfl, f3.one1.backN rfl⟩

theorem c43 {V : CW} {x0 : List Byte} {v0_ : Value} {r : (List Vm.Memo) × (List Str) × (List Str) × (List Str)} (h0 : Rd V [0] [v0_] x0) (hm : Vm.spec_DrawMemoLeft x0 = some r) : CallR Try.prog 43 [v0_].toArray V.w (Res V LL fun Wf v => ∃ (u0 : Value) (u1 : Value) (u2 : Value) (u3 : Value), v = .tuple [u0, u1, u2, u3].toArray ∧ OwS Wf [31] [] [u0] r.1 ∧ OwS Wf [32] [] [u1] r.2.1 ∧ OwS Wf [33] [] [u2] r.2.2.1 ∧ OwS Wf [34] [] [u3] r.2.2.2) := by
  unfold Vm.spec_DrawMemoLeft at hm
  obtain ⟨W0, hW0⟩ : ∃ W, W = V := ⟨V, rfl⟩
  subst hW0
  refine CallR.of Try.func43 rfl rfl rfl rfl ?_
  refine Cw.seq ?_
  refine Cw.region ?_
  refine Lw.r rfl (R.as (v := .slice none 0 0) rfl) (Lw.r rfl (R.as (v := .slice none 0 0) rfl) (Lw.r rfl (R.as (v := .slice none 0 0) rfl) (Lw.r rfl (R.as (v := .slice none 0 0) rfl) ?_)))
  refine Lw.nil ?_
  refine Cw.seq ?_
  refine Cw.region ?_
  refine Lw.r rfl (R.mv (v := v0_) rfl) ?_
  obtain ⟨z1, e2, hm⟩ := ob hm
  refine Lw.t rfl (T.call rfl (p44 (K := [0]) (k0 := 2) (k1 := 3) (k2 := 4) (k3 := 5) h0 e2)) ?_
  rintro _ _ ⟨W3, rfl, l3, ⟨v0_3, v1_3, v2_3, v3_3, rfl, f3_0, f3_1, f3_2, f3_3⟩⟩
  have a4 : Le LL _ _ := l3.nil
  refine Lw.r rfl (R.ext (vs := [v0_3, v1_3, v2_3, v3_3]) (v := v0_3) rfl rfl) (Lw.r rfl (R.ext (vs := [v0_3, v1_3, v2_3, v3_3]) (v := v1_3) rfl rfl) (Lw.r rfl (R.ext (vs := [v0_3, v1_3, v2_3, v3_3]) (v := v2_3) rfl rfl) (Lw.r rfl (R.ext (vs := [v0_3, v1_3, v2_3, v3_3]) (v := v3_3) rfl rfl) (Lw.r rfl (R.as (v := v0_3) rfl) (Lw.r rfl (R.as (v := v1_3) rfl) (Lw.r rfl (R.as (v := v2_3) rfl) (Lw.r rfl (R.as (v := v3_3) rfl) ?_)))))))
  refine Lw.nil ?_
  obtain ⟨W5, ew5, l5, o5⟩ := f3_0.dyeO 31
  have a6 : Le LL _ _ := l5.sub rfl
  have o7 := f3_1.up l5 rfl
  have o8 := f3_2.up l5 rfl
  have o9 := f3_3.up l5 rfl
  obtain ⟨W10, ew10, l10, o10⟩ := o7.dyeO 32
  have a11 : Le LL _ _ := l10.sub rfl
  have o12 := o8.up l10 rfl
  have o13 := o9.up l10 rfl
  have o14 := o5.up l10 rfl
  obtain ⟨W15, ew15, l15, o15⟩ := o12.dyeO 33
  have a16 : Le LL _ _ := l15.sub rfl
  have o17 := o13.up l15 rfl
  have o18 := o14.up l15 rfl
  have o19 := o10.up l15 rfl
  obtain ⟨W20, ew20, l20, o20⟩ := o17.dyeO 34
  have a21 : Le LL _ _ := l20.sub rfl
  have o22 := o18.up l20 rfl
  have o23 := o19.up l20 rfl
  have o24 := o15.up l20 rfl
  cases hm
  rw [← ew20.trans (ew15.trans (ew10.trans (ew5)))]
  exact Cw.ret (ret4 rfl rfl rfl rfl (Res.mk (a4.trans (a6.trans (a11.trans (a16.trans a21)))) ⟨v0_3, v1_3, v2_3, v3_3, rfl, o22.s, o23.s, o24.s, o20.s⟩))

theorem p43 {W : CW} {K : List Nat} {x0 : List Byte} {v0_ : Value} {k0 : Nat} {k1 : Nat} {k2 : Nat} {k3 : Nat} {r : (List Vm.Memo) × (List Str) × (List Str) × (List Str)} (h0 : Rd W K [v0_] x0) (hm : Vm.spec_DrawMemoLeft x0 = some r) : CallR Try.prog 43 [v0_].toArray W.w (Res W [] fun W' v => ∃ (u0 : Value) (u1 : Value) (u2 : Value) (u3 : Value), v = .tuple [u0, u1, u2, u3].toArray ∧ Ow W' k0 [] [u0] r.1 ∧ Ow W' k1 [] [u1] r.2.1 ∧ Ow W' k2 [] [u2] r.2.2.1 ∧ Ow W' k3 [] [u3] r.2.2.2) :=
  CallR.adJ (J := []) (fun c => bif Nat.beq c 0 then 0 else bif Nat.beq c 31 then k0 else bif Nat.beq c 32 then k1 else bif Nat.beq c 33 then k2 else bif Nat.beq c 34 then k3 else 0) (c43 (V := W.view K []) (h0.view _) hm) fun _ _ ⟨u0, u1, u2, u3, e, f0, f1, f2, f3⟩ => ⟨u0, u1, u2, u3, e, f0.one1.backN rfl, f1.one1.backN rfl, f2.one1.backN rfl, f3.one1.backN rfl⟩

end Go.Sx
