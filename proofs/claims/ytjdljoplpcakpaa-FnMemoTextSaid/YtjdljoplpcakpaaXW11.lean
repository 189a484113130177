/- Walks: each function answers as its model, printed by a program of ours. Conditions: the arguments read as they are given. -/
import Derived.Test.YtjdljoplpcakpaaXTs
import Derived.Test.YtjdljoplpcakpaaXMd
import Derived.Test.YtjdljoplpcakpaaXW0
import Derived.Test.YtjdljoplpcakpaaXW1
import Derived.Test.YtjdljoplpcakpaaXW10
import Derived.Test.YtjdljoplpcakpaaXW5
import Derived.Test.YtjdljoplpcakpaaXW6
import Derived.Test.YtjdljoplpcakpaaXW7
namespace Go.Sx
open Go Go.Proofs Go.Vm Rp
set_option linter.unusedVariables false
set_option linter.unusedSimpArgs false

theorem c40 {V : CW} {x0 : List Vm.Memo} {v0_ : Value} {x1 : List Str} {v1_ : Value} {x2 : List Str} {v2_ : Value} {x3 : List Str} {v3_ : Value} {r : (List Str) × Bool} (h0 : Rd V [0] [v0_] x0) (h1 : Rd V [0] [v1_] x1) (h2 : Rd V [0] [v2_] x2) (h3 : Rd V [0] [v3_] x3) (hm : Vm.spec_MemoText x0 x1 x2 x3 = some r) : CallR Try.prog 40 [v0_, v1_, v2_, v3_].toArray V.w (Res V LL fun Wf v => ∃ (u0 : Value), v = .tuple [u0, vB r.2].toArray ∧ OwS Wf LL [] [u0] r.1) := by
 unfold Vm.spec_MemoText at hm
 obtain ⟨W0, hW0⟩ : ∃ W, W = V := ⟨V, rfl⟩
 subst hW0
 refine CallR.of Try.func40 rfl rfl rfl rfl (Cw.seq (Cw.region (Lw.g (.slice none 0 0) rfl (Lw.g (vB false) rfl (Lw.nil (Cw.seq (Cw.region (Lw.t rfl (T.lit0 (α := Str) 2 []) ?_))))))))
 rintro v1 _ ⟨W1, rfl, l1, o1⟩
 have a2 := l1.o
 refine Lw.g v1 rfl (Lw.nil (Cw.seq ?_))
 obtain ⟨K5, hK5, hm⟩ := jn_e hm
 refine Cw.join 17 34 [34] (fun l w => ∃ (y3 : Bool) (W4 : CW), W4.w = w ∧ Le [] W1 W4 ∧ l = [vB y3] ∧ K5 y3 = some r) ?_ ?_
 ·rintro _ _ σ ⟨y3, W4, rfl, l4, rfl, hm⟩
  rw [hK5] at hm
  have a6 := a2.n l4
  refine Cw.cond (b := y3) rfl (fun hc8 => ?_) (fun hc8 => ?_)
  ·replace hm := bt hm hc8
   refine Cw.seq (Cw.region (Lw.g (.slice none 0 0) rfl (Lw.g (vB false) rfl (Lw.nil ?_))))
   cases hm
   exact Cw.ret (ret2 rfl rfl (Res.mk a6 ⟨.slice none 0 0, rfl, (owsN []).sub rfl rfl⟩))
  ·replace hm := bf hm hc8
   refine Cw.skip (Cw.seq (Cw.region (Lw.m v1_ rfl (Lw.m v2_ rfl (Lw.m v3_ rfl ?_)))))
   obtain ⟨z12, e13, hm⟩ := ob hm
   refine Lw.t rfl (T.call rfl (p67 (K := [0]) (k0 := 3) (h1.ul a6) (h2.ul a6) (h3.ul a6) e13)) ?_
   rintro v0_14 _ ⟨W14, rfl, l14, ⟨_, rfl, f14_0⟩⟩
   have a15 := a6.n l14
   refine Lw.g v0_14 rfl (Lw.nil (Cw.seq (Cw.seq (Cw.region (Lw.g (vI 0) rfl (Lw.nil (Cw.block ?_)))))))
   obtain ⟨K29, hK29, hm⟩ := jn_e hm
   refine Cw.loop 39 71 [8, 9, 10, 12, 13, 14, 15] (fun m l w => ∃ (y17 : List Str) (y20 : Bool) (y21 : List Str) (y24 : Int) (v18 v22 j25 j26 j27 : Value) (W28 : CW), W28.w = w ∧ Le [2, 5] W14 W28 ∧ l = [v18, vB y20, v22, vI y24, j25, j26, j27] ∧ Ow W28 4 [] [v18] y17 ∧ Ow W28 2 [] [v22] y21 ∧ Vm.spec_MemoText_l1 x0 z12 K29 m y17 y20 y21 y24 = some r) (((z12.length : Int) - 0).toNat + 1) ⟨([] : List Str), false, ([] : List Str), 0, .slice none 0 0, v1, undef, undef, undef, W14, rfl, Le.refl _ _, rfl, owN 4 [], ((o1.up l4 rfl).up l14 rfl), hm⟩ ?_
   rintro m30 _ _ σ ⟨y17, y20, y21, y24, v18, v22, j25, j26, j27, W28, rfl, l28, rfl, o19, o23, hm⟩
   obtain _ | m30 := m30
   ·cases hm
   unfold Vm.spec_MemoText_l1 at hm
   have a31 := a15.t l28 rfl
   have o32 := f14_0.up l28 rfl
   refine Cw.seq (Cw.seq (Cw.region (Lw.m (vI y24) rfl (Lw.m v0_14 rfl (Lw.ln z12 o32.rd rfl (Lw.lt rfl (Lw.nil (Cw.cond (b := decide ((y24 : Int) < ((z12.length : Int) : Int))) rfl (fun hc33 => ?_) (fun hc33 => ?_)))))))))
   ·replace hm := bt hm hc33
    refine Cw.skip ?_
    obtain ⟨K45, hK45, hm⟩ := jn_e hm
    refine Cw.join 45 71 [8, 9, 10, 13, 14, 15] (fun l w => ∃ (y34 : List Str) (y37 : Bool) (y38 : List Str) (v35 v39 j41 j42 j43 : Value) (W44 : CW), W44.w = w ∧ Le [2, 5] W28 W44 ∧ l = [v35, vB y37, v39, j41, j42, j43] ∧ Ow W44 4 [] [v35] y34 ∧ Ow W44 2 [] [v39] y38 ∧ K45 y34 y37 y38 = some r) ?_ ?_
    ·rintro _ _ σ ⟨y34, y37, y38, v35, v39, j41, j42, j43, W44, rfl, l44, rfl, o36, o40, hm⟩
     rw [hK45] at hm
     refine Cw.region (Lw.m (vI y24) rfl (Lw.add rfl (Lw.g (vI (w64 (y24 + 1))) rfl (Lw.nil (⟨?_, m30, Nat.lt_succ_self m30, ⟨y34, y37, y38, w64 (y24 + 1), v35, v39, j41, j42, j43, W44, rfl, (l28.trans l44), rfl, o36, o40, hm⟩⟩)))))
     iterate 3 (refine Agree.up rfl ?_)
     iterate 6 (refine Agree.up rfl ?_)
     refine Agree.ov0 rfl ?_
     iterate 4 (refine Agree.up rfl ?_)
     iterate 7 (refine Agree.up rfl ?_)
     exact Agree.base
    ·refine Cw.block (Cw.seq (Cw.region (Lw.m v0_14 rfl (Lw.m (vI y24) rfl ?_))))
     obtain ⟨u48, e49, hm⟩ := ob hm
     refine Lw.r rfl (R.ix (α := Part) o32.rd e49 rfl rfl rfl) ?_
     obtain ⟨x50, c51, _, r52⟩ := (o32.rd.at_ e49).cells
     obtain ⟨v53, v55, v57, v59, rfl, r54, r56, r58, r60⟩ := Part.split r52
     refine Lw.r rfl (R.lda c51 rfl rfl) (Lw.t rfl (T.alloc 5 (cs := [vB false, .slice none 0 0, .slice none 0 0, .slice none 0 0, .slice none 0 0]) rfl) ?_)
     rintro _ _ ⟨g61, W61, rfl, rfl, l61, b61⟩
     have a62 := a31.n l61
     refine Lw.u (T.sta (vs := [vB u48.Clash, v53, v55, v57, v59]) b61 rfl rfl (oc_cons rfl (oc_cons r54.oc (oc_cons r56.oc (oc_cons r58.oc (oc_cons r60.oc oc_nil))))) rfl rfl) ?_
     rintro _ _ ⟨W66, rfl, l66, b66⟩
     have a67 := a62.t l66 rfl
     have o68 := (o23.up l61 rfl).up l66 rfl
     have o70 := (o19.up l61 rfl).up l66 rfl
     refine Lw.nil (Cw.seq (Cw.seq (Cw.region (Lw.fa rfl (Lw.r rfl (R.ld (v := vB u48.Clash) rfl rfl (b66.cell rfl)) (Lw.r rfl (R.not rfl) (Lw.nil (Cw.cond (b := (!u48.Clash)) rfl (fun hc71 => ?_) (fun hc71 => ?_)))))))))
     ·replace hm := bt hm hc71
      refine Cw.seq (Cw.region (Lw.m v22 rfl (Lw.fa rfl (Lw.r rfl (R.ld (v := v53) rfl rfl (b66.cell rfl)) ?_))))
      obtain ⟨q72, e73, hm⟩ := ob hm
      have s75 := r54.up ((l61.sub (M := [5]) rfl).trans (l66.sub (M := [5]) rfl)) rfl
      refine Lw.t rfl (T.appP (α := Str) o68 s75 rfl rfl e73) ?_
      rintro v74 _ ⟨W74, rfl, l74, o74⟩
      refine Lw.g v74 rfl (Lw.nil (Cw.exit (⟨?_, ⟨y17, y20, q72, v18, v74, ptr (bx g61), j26, j27, W74, rfl, ((l61.sub rfl).trans ((l66.sub rfl).trans (l74.sub rfl))), rfl, (o70.up l74 rfl), o74, hm⟩⟩)))
      iterate 13 (refine Agree.up rfl ?_)
      exact Agree.refl _
     ·replace hm := bf hm hc71
      refine Cw.skip (Cw.seq (Cw.region (Lw.m v0_ rfl (Lw.fa rfl (Lw.r rfl (R.ld (v := v55) rfl rfl (b66.cell rfl)) (Lw.fa rfl (Lw.r rfl (R.ld (v := v57) rfl rfl (b66.cell rfl)) (Lw.fa rfl (Lw.r rfl (R.ld (v := v59) rfl rfl (b66.cell rfl)) ?_)))))))))
      have s81 := r56.up ((l61.sub (M := [5]) rfl).trans (l66.sub (M := [5]) rfl)) rfl
      have s82 := r58.up ((l61.sub (M := [5]) rfl).trans (l66.sub (M := [5]) rfl)) rfl
      have s83 := r60.up ((l61.sub (M := [5]) rfl).trans (l66.sub (M := [5]) rfl)) rfl
      obtain ⟨z84, e85, hm⟩ := ob hm
      refine Lw.t rfl (T.call rfl (p68 (K := [0, 3])  ((h0.ul a67).sub (M := [0, 3]) rfl) (s81.sub (M := [0, 3]) rfl) (s82.sub (M := [0, 3]) rfl) (s83.sub (M := [0, 3]) rfl) e85)) ?_
      rintro _ _ ⟨W86, rfl, l86, ⟨v0_86, rfl, f86_0⟩⟩
      have s87 := f86_0.sub (M := [0, 3]) rfl
      have a88 := a67.n l86
      refine Lw.m (.tuple [v0_86, vB z84.2].toArray) rfl (Lw.r rfl (R.ext (vs := [v0_86, vB z84.2]) (v := v0_86) rfl rfl) (Lw.r rfl (R.ext (vs := [v0_86, vB z84.2]) (v := vB z84.2) rfl rfl) (Lw.g v0_86 rfl (Lw.g (vB z84.2) rfl (Lw.nil (Cw.seq (Cw.seq (Cw.region (Lw.m (vB z84.2) rfl (Lw.r rfl (R.not rfl) (Lw.nil (Cw.cond (b := (!z84.2)) rfl (fun hc93 => ?_) (fun hc93 => ?_)))))))))))))
      ·replace hm := bt hm hc93
       refine Cw.seq (Cw.region (Lw.g (.slice none 0 0) rfl (Lw.g (vB false) rfl (Lw.nil ?_))))
       cases hm
       exact Cw.ret (ret2 rfl rfl (Res.mk a88 ⟨.slice none 0 0, rfl, (owsN []).sub rfl rfl⟩))
      ·replace hm := bf hm hc93
       refine Cw.skip (Cw.region (Lw.m v22 rfl (Lw.m v0_86 rfl ?_)))
       obtain ⟨q94, e95, hm⟩ := ob hm
       refine Lw.t rfl (T.appP (α := Str) (o68.up l86 rfl) s87 rfl rfl e95) ?_
       rintro v96 _ ⟨W96, rfl, l96, o96⟩
       refine Lw.g v96 rfl (Lw.nil (⟨?_, ⟨y17, y20, q94, v18, v96, ptr (bx g61), v0_86, vB z84.2, W96, rfl, ((l61.sub rfl).trans ((l66.sub rfl).trans ((l86.sub rfl).trans (l96.sub rfl)))), rfl, ((o70.up l86 rfl).up l96 rfl), o96, hm⟩⟩))
       iterate 27 (refine Agree.up rfl ?_)
       exact Agree.refl _
   ·replace hm := bf hm hc33
    refine Cw.exit ?_
    rw [hK29] at hm
    refine Cw.seq (Cw.seq (Cw.region (Lw.m v22 rfl ?_)))
    obtain ⟨z101, e102, hm⟩ := ob hm
    refine Lw.t rfl (T.call rfl (p66 (K := [2])  o23.rd e102)) ?_
    rintro _ _ ⟨W103, rfl, l103, rfl⟩
    have a104 := a31.n l103
    refine Lw.r rfl (R.not rfl) (Lw.nil (Cw.cond (b := (!z101)) rfl (fun hc108 => ?_) (fun hc108 => ?_)))
    ·replace hm := bt hm hc108
     refine Cw.seq (Cw.region (Lw.g (.slice none 0 0) rfl (Lw.g (vB false) rfl (Lw.nil ?_))))
     cases hm
     exact Cw.ret (ret2 rfl rfl (Res.mk a104 ⟨.slice none 0 0, rfl, (owsN []).sub rfl rfl⟩))
    ·replace hm := bf hm hc108
     refine Cw.skip (Cw.seq (Cw.region (Lw.m v22 rfl (Lw.g v22 rfl (Lw.g (vB true) rfl (Lw.nil ?_))))))
     cases hm
     exact Cw.ret (ret2 rfl rfl (Res.mk a104 ⟨v22, rfl, (o23.up l103 rfl).s.sub rfl rfl⟩))
 ·refine Cw.region (Lw.m v0_ rfl ?_)
  obtain ⟨z110, e111, hm⟩ := ob hm
  refine Lw.t rfl (T.call rfl (p53 (K := [0])  (h0.ul a2) e111)) ?_
  rintro _ _ ⟨W112, rfl, l112, rfl⟩
  have a113 := a2.n l112
  refine Lw.r rfl (R.not rfl) (Lw.m (vB (!z110)) rfl (bsplit (!z110) (fun hc115 => ?_) (fun hc115 => ?_)))
  ·replace hm := bt hm hc115
   refine Lw.pass' hc115 rfl rfl rfl rfl rfl rfl rfl (Lw.pass' hc115 rfl rfl rfl rfl rfl rfl rfl (Lw.pass' hc115 rfl rfl rfl rfl rfl rfl rfl (Lw.p hc115 (vB true) rfl (Lw.m (vB true) rfl (Lw.pass' rfl rfl rfl rfl rfl rfl rfl rfl (Lw.pass' rfl rfl rfl rfl rfl rfl rfl rfl (Lw.pass' rfl rfl rfl rfl rfl rfl rfl rfl (Lw.p rfl (vB true) rfl (Lw.m (vB true) rfl (Lw.pass' rfl rfl rfl rfl rfl rfl rfl rfl (Lw.pass' rfl rfl rfl rfl rfl rfl rfl rfl (Lw.pass' rfl rfl rfl rfl rfl rfl rfl rfl (Lw.p rfl (vB true) rfl (Lw.nil (⟨?_, ⟨true, W112, rfl, l112, rfl, hm⟩⟩)))))))))))))))
   iterate 18 (refine Agree.up rfl ?_)
   exact Agree.refl _
  ·replace hm := bf hm hc115
   refine Lw.want' hc115 rfl rfl rfl rfl (Lw.m v1_ rfl (Lw.want' hc115 rfl rfl rfl rfl ?_))
   obtain ⟨z117, e118, hm⟩ := ob hm
   refine Lw.t rfl (T.call rfl (p66 (K := [0])  (h1.ul a113) e118)) ?_
   rintro _ _ ⟨W119, rfl, l119, rfl⟩
   have a120 := a113.n l119
   refine Lw.want' hc115 rfl rfl rfl rfl (Lw.r rfl (R.not rfl) (Lw.p hc115 (vB (!z117)) rfl (Lw.m (vB (!z117)) rfl (bsplit (!z117) (fun hc122 => ?_) (fun hc122 => ?_)))))
   ·replace hm := bt hm hc122
    refine Lw.pass' hc122 rfl rfl rfl rfl rfl rfl rfl (Lw.pass' hc122 rfl rfl rfl rfl rfl rfl rfl (Lw.pass' hc122 rfl rfl rfl rfl rfl rfl rfl (Lw.p hc122 (vB true) rfl (Lw.m (vB true) rfl (Lw.pass' rfl rfl rfl rfl rfl rfl rfl rfl (Lw.pass' rfl rfl rfl rfl rfl rfl rfl rfl (Lw.pass' rfl rfl rfl rfl rfl rfl rfl rfl (Lw.p rfl (vB true) rfl (Lw.nil (⟨?_, ⟨true, W119, rfl, (l112.trans l119), rfl, hm⟩⟩))))))))))
    iterate 18 (refine Agree.up rfl ?_)
    exact Agree.refl _
   ·replace hm := bf hm hc122
    refine Lw.want' hc122 rfl rfl rfl rfl (Lw.m v2_ rfl (Lw.want' hc122 rfl rfl rfl rfl ?_))
    obtain ⟨z124, e125, hm⟩ := ob hm
    refine Lw.t rfl (T.call rfl (p66 (K := [0])  (h2.ul a120) e125)) ?_
    rintro _ _ ⟨W126, rfl, l126, rfl⟩
    have a127 := a120.n l126
    refine Lw.want' hc122 rfl rfl rfl rfl (Lw.r rfl (R.not rfl) (Lw.p hc122 (vB (!z124)) rfl (Lw.m (vB (!z124)) rfl (bsplit (!z124) (fun hc129 => ?_) (fun hc129 => ?_)))))
    ·replace hm := bt hm hc129
     refine Lw.pass' hc129 rfl rfl rfl rfl rfl rfl rfl (Lw.pass' hc129 rfl rfl rfl rfl rfl rfl rfl (Lw.pass' hc129 rfl rfl rfl rfl rfl rfl rfl (Lw.p hc129 (vB true) rfl (Lw.nil (⟨?_, ⟨true, W126, rfl, (l112.trans (l119.trans l126)), rfl, hm⟩⟩)))))
     iterate 18 (refine Agree.up rfl ?_)
     exact Agree.refl _
    ·replace hm := bf hm hc129
     refine Lw.want' hc129 rfl rfl rfl rfl (Lw.m v3_ rfl (Lw.want' hc129 rfl rfl rfl rfl ?_))
     obtain ⟨z131, e132, hm⟩ := ob hm
     refine Lw.t rfl (T.call rfl (p66 (K := [0])  (h3.ul a127) e132)) ?_
     rintro _ _ ⟨W133, rfl, l133, rfl⟩
     refine Lw.want' hc129 rfl rfl rfl rfl (Lw.r rfl (R.not rfl) (Lw.p hc129 (vB (!z131)) rfl (Lw.nil (⟨?_, ⟨(!z131), W133, rfl, (l112.trans (l119.trans (l126.trans l133))), rfl, hm⟩⟩))))
     iterate 18 (refine Agree.up rfl ?_)
     exact Agree.refl _

theorem p40 {W : CW} {K : List Nat} {x0 : List Vm.Memo} {v0_ : Value} {x1 : List Str} {v1_ : Value} {x2 : List Str} {v2_ : Value} {x3 : List Str} {v3_ : Value} {k0 : Nat} {r : (List Str) × Bool} (h0 : Rd W K [v0_] x0) (h1 : Rd W K [v1_] x1) (h2 : Rd W K [v2_] x2) (h3 : Rd W K [v3_] x3) (hm : Vm.spec_MemoText x0 x1 x2 x3 = some r) : CallR Try.prog 40 [v0_, v1_, v2_, v3_].toArray W.w (Res W [] fun W' v => ∃ (u0 : Value), v = .tuple [u0, vB r.2].toArray ∧ Ow W' k0 [] [u0] r.1) :=
 (c40 (V := W.view K []) (h0.view _) (h1.view _) (h2.view _) (h3.view _) hm).ad (fk k0) fun _ _ ⟨u0, e, f0⟩ => ⟨u0, e, f0.back (fk_LL _)⟩

theorem c8 {V : CW} {x0 : List Vm.Memo} {v0_ : Value} {x1 : List Str} {v1_ : Value} {x2 : List Str} {v2_ : Value} {x3 : List Str} {v3_ : Value} {r : Bool} (h0 : Rd V [0] [v0_] x0) (h1 : Rd V [0] [v1_] x1) (h2 : Rd V [0] [v2_] x2) (h3 : Rd V [0] [v3_] x3) (hm : Vm.laws_FnExactMemoText x0 x1 x2 x3 = some r) : CallR Try.prog 8 [v0_, v1_, v2_, v3_].toArray V.w (Res V LL fun Wf v => v = vB r) := by
 unfold Vm.laws_FnExactMemoText at hm
 obtain ⟨W0, hW0⟩ : ∃ W, W = V := ⟨V, rfl⟩
 subst hW0
 refine CallR.of Try.func8 rfl rfl rfl rfl (Cw.seq (Cw.region (Lw.g (vB false) rfl (Lw.nil (Cw.seq (Cw.region (Lw.g (vI 1048576) rfl (Lw.nil (Cw.seq (Cw.region (Lw.m v0_ rfl (Lw.m (vI 1048576) rfl ?_))))))))))))
 obtain ⟨z1, e2, hm⟩ := ob hm
 refine Lw.t rfl (T.call rfl (p12 (K := [0])  h0 e2)) ?_
 rintro _ _ ⟨W3, rfl, l3, rfl⟩
 have a4 := l3.o
 refine Lw.g (vI z1) rfl (Lw.nil (Cw.seq (Cw.seq (Cw.region (Lw.m (vI z1) rfl (Lw.lt rfl (Lw.nil (Cw.cond (b := decide ((z1 : Int) < (0 : Int))) rfl (fun hc5 => ?_) (fun hc5 => ?_)))))))))
 ·replace hm := bt hm hc5
  refine Cw.seq (Cw.region (Lw.g (vB true) rfl (Lw.nil ?_)))
  cases hm
  exact Cw.ret (ret1 rfl (Res.mk a4 rfl))
 ·replace hm := bf hm hc5
  refine Cw.skip (Cw.seq (Cw.region (Lw.m v1_ rfl (Lw.m (vI z1) rfl ?_))))
  obtain ⟨z7, e8, hm⟩ := ob hm
  refine Lw.t rfl (T.call rfl (p27 (K := [0])  (h1.ul a4) e8)) ?_
  rintro _ _ ⟨W9, rfl, l9, rfl⟩
  have a10 := a4.n l9
  refine Lw.g (vI z7) rfl (Lw.nil (Cw.seq (Cw.seq (Cw.region (Lw.m (vI z7) rfl (Lw.lt rfl (Lw.nil (Cw.cond (b := decide ((z7 : Int) < (0 : Int))) rfl (fun hc11 => ?_) (fun hc11 => ?_)))))))))
  ·replace hm := bt hm hc11
   refine Cw.seq (Cw.region (Lw.g (vB true) rfl (Lw.nil ?_)))
   cases hm
   exact Cw.ret (ret1 rfl (Res.mk a10 rfl))
  ·replace hm := bf hm hc11
   refine Cw.skip (Cw.seq (Cw.region (Lw.m v2_ rfl (Lw.m (vI z7) rfl ?_))))
   obtain ⟨z13, e14, hm⟩ := ob hm
   refine Lw.t rfl (T.call rfl (p27 (K := [0])  (h2.ul a10) e14)) ?_
   rintro _ _ ⟨W15, rfl, l15, rfl⟩
   have a16 := a10.n l15
   refine Lw.g (vI z13) rfl (Lw.nil (Cw.seq (Cw.seq (Cw.region (Lw.m (vI z13) rfl (Lw.lt rfl (Lw.nil (Cw.cond (b := decide ((z13 : Int) < (0 : Int))) rfl (fun hc17 => ?_) (fun hc17 => ?_)))))))))
   ·replace hm := bt hm hc17
    refine Cw.seq (Cw.region (Lw.g (vB true) rfl (Lw.nil ?_)))
    cases hm
    exact Cw.ret (ret1 rfl (Res.mk a16 rfl))
   ·replace hm := bf hm hc17
    refine Cw.skip (Cw.seq (Cw.region (Lw.m v3_ rfl (Lw.m (vI z13) rfl ?_))))
    obtain ⟨z19, e20, hm⟩ := ob hm
    refine Lw.t rfl (T.call rfl (p27 (K := [0])  (h3.ul a16) e20)) ?_
    rintro _ _ ⟨W21, rfl, l21, rfl⟩
    have a22 := a16.n l21
    refine Lw.g (vI z19) rfl (Lw.nil (Cw.seq (Cw.seq (Cw.region (Lw.m (vI z19) rfl (Lw.lt rfl (Lw.nil (Cw.cond (b := decide ((z19 : Int) < (0 : Int))) rfl (fun hc23 => ?_) (fun hc23 => ?_)))))))))
    ·replace hm := bt hm hc23
     refine Cw.seq (Cw.region (Lw.g (vB true) rfl (Lw.nil ?_)))
     cases hm
     exact Cw.ret (ret1 rfl (Res.mk a22 rfl))
    ·replace hm := bf hm hc23
     refine Cw.skip (Cw.seq (Cw.region (Lw.m v0_ rfl ?_)))
     obtain ⟨z25, e26, hm⟩ := ob hm
     refine Lw.t rfl (T.call rfl (p14 (K := [0]) (k0 := 2) (h0.ul a22) e26)) ?_
     rintro v0_27 _ ⟨W27, rfl, l27, ⟨_, rfl, f27_0⟩⟩
     have a28 := a22.n l27
     refine Lw.m v1_ rfl ?_
     obtain ⟨z30, e31, hm⟩ := ob hm
     refine Lw.t rfl (T.call rfl (p29 (K := [0]) (k0 := 3) (h1.ul a28) e31)) ?_
     rintro v0_32 _ ⟨W32, rfl, l32, ⟨_, rfl, f32_0⟩⟩
     have a33 := a28.n l32
     refine Lw.m v2_ rfl ?_
     obtain ⟨z36, e37, hm⟩ := ob hm
     refine Lw.t rfl (T.call rfl (p29 (K := [0]) (k0 := 4) (h2.ul a33) e37)) ?_
     rintro v0_38 _ ⟨W38, rfl, l38, ⟨_, rfl, f38_0⟩⟩
     have a39 := a33.n l38
     refine Lw.m v3_ rfl ?_
     obtain ⟨z43, e44, hm⟩ := ob hm
     refine Lw.t rfl (T.call rfl (p29 (K := [0]) (k0 := 5) (h3.ul a39) e44)) ?_
     rintro v0_45 _ ⟨W45, rfl, l45, ⟨_, rfl, f45_0⟩⟩
     have a46 := a39.n l45
     obtain ⟨z50, e51, hm⟩ := ob hm
     refine Lw.t rfl (T.call rfl (p40 (K := [2, 3, 4, 5]) (k0 := 6) ((((f27_0.up l32 rfl).up l38 rfl).up l45 rfl).rd.sub (M := [2, 3, 4, 5]) rfl) (((f32_0.up l38 rfl).up l45 rfl).rd.sub (M := [2, 3, 4, 5]) rfl) ((f38_0.up l45 rfl).rd.sub (M := [2, 3, 4, 5]) rfl) (f45_0.rd.sub (M := [2, 3, 4, 5]) rfl) e51)) ?_
     rintro _ _ ⟨W52, rfl, l52, ⟨v0_52, rfl, f52_0⟩⟩
     have a53 := a46.n l52
     refine Lw.m (.tuple [v0_52, vB z50.2].toArray) rfl (Lw.r rfl (R.ext (vs := [v0_52, vB z50.2]) (v := v0_52) rfl rfl) (Lw.r rfl (R.ext (vs := [v0_52, vB z50.2]) (v := vB z50.2) rfl rfl) (Lw.g v0_52 rfl (Lw.g (vB z50.2) rfl (Lw.nil (Cw.seq (Cw.region (Lw.m v0_ rfl ?_))))))))
     obtain ⟨z59, e60, hm⟩ := ob hm
     refine Lw.t rfl (T.call rfl (p14 (K := [0]) (k0 := 7) (h0.ul a53) e60)) ?_
     rintro v0_61 _ ⟨W61, rfl, l61, ⟨_, rfl, f61_0⟩⟩
     have a62 := a53.n l61
     refine Lw.g v0_61 rfl (Lw.nil (Cw.seq (Cw.region (Lw.m v1_ rfl ?_))))
     obtain ⟨z69, e70, hm⟩ := ob hm
     refine Lw.t rfl (T.call rfl (p29 (K := [0]) (k0 := 8) (h1.ul a62) e70)) ?_
     rintro v0_71 _ ⟨W71, rfl, l71, ⟨_, rfl, f71_0⟩⟩
     have a72 := a62.n l71
     refine Lw.g v0_71 rfl (Lw.nil (Cw.seq (Cw.region (Lw.m v2_ rfl ?_))))
     obtain ⟨z80, e81, hm⟩ := ob hm
     refine Lw.t rfl (T.call rfl (p29 (K := [0]) (k0 := 9) (h2.ul a72) e81)) ?_
     rintro v0_82 _ ⟨W82, rfl, l82, ⟨_, rfl, f82_0⟩⟩
     have a83 := a72.n l82
     refine Lw.g v0_82 rfl (Lw.nil (Cw.seq (Cw.region (Lw.m v3_ rfl ?_))))
     obtain ⟨z92, e93, hm⟩ := ob hm
     refine Lw.t rfl (T.call rfl (p29 (K := [0]) (k0 := 10) (h3.ul a83) e93)) ?_
     rintro v0_94 _ ⟨W94, rfl, l94, ⟨_, rfl, f94_0⟩⟩
     have a95 := a83.n l94
     have o101 := ((f61_0.up l71 rfl).up l82 rfl).up l94 rfl
     have o102 := (f71_0.up l82 rfl).up l94 rfl
     refine Lw.g v0_94 rfl (Lw.nil (Cw.seq (Cw.region (Lw.m v0_61 rfl (Lw.m v0_71 rfl (Lw.m v0_82 rfl (Lw.m v0_94 rfl ?_)))))))
     obtain ⟨z104, e105, hm⟩ := ob hm
     refine Lw.t rfl (T.call rfl (p37 (K := [7, 8, 9, 10]) (k0 := 11) (o101.rd.sub (M := [7, 8, 9, 10]) rfl) (o102.rd.sub (M := [7, 8, 9, 10]) rfl) ((f82_0.up l94 rfl).rd.sub (M := [7, 8, 9, 10]) rfl) (f94_0.rd.sub (M := [7, 8, 9, 10]) rfl) e105)) ?_
     rintro _ _ ⟨W106, rfl, l106, ⟨v0_106, rfl, f106_0⟩⟩
     have a107 := a95.n l106
     have o112 := ((((f52_0.up l61 rfl).up l71 rfl).up l82 rfl).up l94 rfl).up l106 rfl
     refine Lw.m (.tuple [v0_106, vB z104.2].toArray) rfl (Lw.r rfl (R.ext (vs := [v0_106, vB z104.2]) (v := v0_106) rfl rfl) (Lw.r rfl (R.ext (vs := [v0_106, vB z104.2]) (v := vB z104.2) rfl rfl) (Lw.g v0_106 rfl (Lw.g (vB z104.2) rfl (Lw.nil (Cw.seq ?_))))))
     obtain ⟨K119, hK119, hm⟩ := jn_e hm
     refine Cw.join 71 79 [79] (fun l w => ∃ (y117 : Bool) (W118 : CW), W118.w = w ∧ Le [] W106 W118 ∧ l = [vB y117] ∧ K119 y117 = some r) ?_ ?_
     ·rintro _ _ σ ⟨y117, W118, rfl, l118, rfl, hm⟩
      rw [hK119] at hm
      have a120 := a107.n l118
      refine Cw.cond (b := y117) rfl (fun hc131 => ?_) (fun hc131 => ?_)
      ·replace hm := bt hm hc131
       refine Cw.seq (Cw.region (Lw.g (vB false) rfl (Lw.nil ?_)))
       cases hm
       exact Cw.ret (ret1 rfl (Res.mk a120 rfl))
      ·replace hm := bf hm hc131
       refine Cw.skip (Cw.seq (Cw.seq (Cw.region (Lw.m v0_61 rfl (Lw.m v0_ rfl ?_)))))
       obtain ⟨z133, e134, hm⟩ := ob hm
       refine Lw.t rfl (T.call rfl (p14 (K := [0]) (k0 := 12) (h0.ul a120) e134)) ?_
       rintro v0_135 _ ⟨W135, rfl, l135, ⟨_, rfl, f135_0⟩⟩
       have a136 := a120.n l135
       have o142 := ((o101.up l106 rfl).up l118 rfl).up l135 rfl
       obtain ⟨z147, e148, hm⟩ := ob hm
       refine Lw.t rfl (T.call rfl (p16 (K := [7, 12])  (o142.rd.sub (M := [7, 12]) rfl) (f135_0.rd.sub (M := [7, 12]) rfl) e148)) ?_
       rintro _ _ ⟨W149, rfl, l149, rfl⟩
       have a150 := a136.n l149
       refine Lw.r rfl (R.not rfl) (Lw.nil (Cw.cond (b := (!z147)) rfl (fun hc162 => ?_) (fun hc162 => ?_)))
       ·replace hm := bt hm hc162
        refine Cw.seq (Cw.region (Lw.g (vB false) rfl (Lw.nil ?_)))
        cases hm
        exact Cw.ret (ret1 rfl (Res.mk a150 rfl))
       ·replace hm := bf hm hc162
        refine Cw.skip (Cw.seq (Cw.seq (Cw.region (Lw.m v0_71 rfl (Lw.m v1_ rfl ?_)))))
        obtain ⟨z164, e165, hm⟩ := ob hm
        refine Lw.t rfl (T.call rfl (p29 (K := [0]) (k0 := 13) (h1.ul a150) e165)) ?_
        rintro v0_166 _ ⟨W166, rfl, l166, ⟨_, rfl, f166_0⟩⟩
        have a167 := a150.n l166
        have o174 := ((((o102.up l106 rfl).up l118 rfl).up l135 rfl).up l149 rfl).up l166 rfl
        obtain ⟨z179, e180, hm⟩ := ob hm
        refine Lw.t rfl (T.call rfl (p31 (K := [8, 13])  (o174.rd.sub (M := [8, 13]) rfl) (f166_0.rd.sub (M := [8, 13]) rfl) e180)) ?_
        rintro _ _ ⟨W181, rfl, l181, rfl⟩
        have a182 := a167.n l181
        refine Lw.r rfl (R.not rfl) (Lw.nil (Cw.cond (b := (!z179)) rfl (fun hc195 => ?_) (fun hc195 => ?_)))
        ·replace hm := bt hm hc195
         refine Cw.seq (Cw.region (Lw.g (vB false) rfl (Lw.nil ?_)))
         cases hm
         exact Cw.ret (ret1 rfl (Res.mk a182 rfl))
        ·replace hm := bf hm hc195
         refine Cw.skip (Cw.seq (Cw.seq (Cw.region (Lw.m v0_82 rfl (Lw.m v2_ rfl ?_)))))
         obtain ⟨z197, e198, hm⟩ := ob hm
         refine Lw.t rfl (T.call rfl (p29 (K := [0]) (k0 := 14) (h2.ul a182) e198)) ?_
         rintro v0_199 _ ⟨W199, rfl, l199, ⟨_, rfl, f199_0⟩⟩
         have a200 := a182.n l199
         have o208 := (((((((f82_0.up l94 rfl).up l106 rfl).up l118 rfl).up l135 rfl).up l149 rfl).up l166 rfl).up l181 rfl).up l199 rfl
         obtain ⟨z213, e214, hm⟩ := ob hm
         refine Lw.t rfl (T.call rfl (p31 (K := [9, 14])  (o208.rd.sub (M := [9, 14]) rfl) (f199_0.rd.sub (M := [9, 14]) rfl) e214)) ?_
         rintro _ _ ⟨W215, rfl, l215, rfl⟩
         have a216 := a200.n l215
         refine Lw.r rfl (R.not rfl) (Lw.nil (Cw.cond (b := (!z213)) rfl (fun hc230 => ?_) (fun hc230 => ?_)))
         ·replace hm := bt hm hc230
          refine Cw.seq (Cw.region (Lw.g (vB false) rfl (Lw.nil ?_)))
          cases hm
          exact Cw.ret (ret1 rfl (Res.mk a216 rfl))
         ·replace hm := bf hm hc230
          refine Cw.skip (Cw.seq (Cw.seq (Cw.region (Lw.m v0_94 rfl (Lw.m v3_ rfl ?_)))))
          obtain ⟨z232, e233, hm⟩ := ob hm
          refine Lw.t rfl (T.call rfl (p29 (K := [0]) (k0 := 15) (h3.ul a216) e233)) ?_
          rintro v0_234 _ ⟨W234, rfl, l234, ⟨_, rfl, f234_0⟩⟩
          have a235 := a216.n l234
          have o244 := ((((((((f94_0.up l106 rfl).up l118 rfl).up l135 rfl).up l149 rfl).up l166 rfl).up l181 rfl).up l199 rfl).up l215 rfl).up l234 rfl
          obtain ⟨z249, e250, hm⟩ := ob hm
          refine Lw.t rfl (T.call rfl (p31 (K := [10, 15])  (o244.rd.sub (M := [10, 15]) rfl) (f234_0.rd.sub (M := [10, 15]) rfl) e250)) ?_
          rintro _ _ ⟨W251, rfl, l251, rfl⟩
          have a252 := a235.n l251
          refine Lw.r rfl (R.not rfl) (Lw.nil (Cw.cond (b := (!z249)) rfl (fun hc267 => ?_) (fun hc267 => ?_)))
          ·replace hm := bt hm hc267
           refine Cw.seq (Cw.region (Lw.g (vB false) rfl (Lw.nil ?_)))
           cases hm
           exact Cw.ret (ret1 rfl (Res.mk a252 rfl))
          ·replace hm := bf hm hc267
           refine Cw.skip (Cw.seq (Cw.region (Lw.g (vI 1) rfl (Lw.nil (Cw.seq (Cw.region (Lw.m v0_61 rfl (Lw.m (vI 1) rfl ?_))))))))
           obtain ⟨z268, e269, hm⟩ := ob hm
           refine Lw.t rfl (T.call rfl (p24 (K := [0])  (c0 := 7) (((((((o142.up l149 rfl).up l166 rfl).up l181 rfl).up l199 rfl).up l215 rfl).up l234 rfl).up l251 rfl) rfl e269)) ?_
           rintro _ _ ⟨W270, rfl, l270, ⟨rfl, f270_0⟩⟩
           have a271 := a252.t l270 rfl
           refine Lw.g (vI z268.1) rfl (Lw.nil (Cw.seq (Cw.region (Lw.m v0_71 rfl (Lw.m (vI z268.1) rfl ?_)))))
           obtain ⟨z285, e286, hm⟩ := ob hm
           refine Lw.t rfl (T.call rfl (p41 (K := [0])  (c0 := 8) ((((((o174.up l181 rfl).up l199 rfl).up l215 rfl).up l234 rfl).up l251 rfl).up l270 rfl) rfl e286)) ?_
           rintro _ _ ⟨W287, rfl, l287, ⟨rfl, f287_0⟩⟩
           have a288 := a271.t l287 rfl
           refine Lw.g (vI z285.1) rfl (Lw.nil (Cw.seq (Cw.region (Lw.m v0_82 rfl (Lw.m (vI z285.1) rfl ?_)))))
           obtain ⟨z302, e303, hm⟩ := ob hm
           refine Lw.t rfl (T.call rfl (p41 (K := [0])  (c0 := 9) (((((o208.up l215 rfl).up l234 rfl).up l251 rfl).up l270 rfl).up l287 rfl) rfl e303)) ?_
           rintro _ _ ⟨W304, rfl, l304, ⟨rfl, f304_0⟩⟩
           have a305 := a288.t l304 rfl
           refine Lw.g (vI z302.1) rfl (Lw.nil (Cw.seq (Cw.region (Lw.m v0_94 rfl (Lw.m (vI z302.1) rfl ?_)))))
           obtain ⟨z319, e320, hm⟩ := ob hm
           refine Lw.t rfl (T.call rfl (p41 (K := [0])  (c0 := 10) ((((o244.up l251 rfl).up l270 rfl).up l287 rfl).up l304 rfl) rfl e320)) ?_
           rintro _ _ ⟨W321, rfl, l321, ⟨rfl, f321_0⟩⟩
           have a322 := a305.t l321 rfl
           have o327 := ((((((((((((o112.up l118 rfl).up l135 rfl).up l149 rfl).up l166 rfl).up l181 rfl).up l199 rfl).up l215 rfl).up l234 rfl).up l251 rfl).up l270 rfl).up l287 rfl).up l304 rfl).up l321 rfl
           have o331 := ((((((((((((f106_0.up l118 rfl).up l135 rfl).up l149 rfl).up l166 rfl).up l181 rfl).up l199 rfl).up l215 rfl).up l234 rfl).up l251 rfl).up l270 rfl).up l287 rfl).up l304 rfl).up l321 rfl
           refine Lw.g (vI z319.1) rfl (Lw.nil (Cw.seq ?_))
           obtain ⟨K338, hK338, hm⟩ := jn_e hm
           refine Cw.join 112 124 [124] (fun l w => ∃ (y336 : Bool) (W337 : CW), W337.w = w ∧ Le [] W321 W337 ∧ l = [vB y336] ∧ K338 y336 = some r) ?_ ?_
           ·rintro _ _ σ ⟨y336, W337, rfl, l337, rfl, hm⟩
            rw [hK338] at hm
            have a339 := a322.n l337
            refine Cw.cond (b := y336) rfl (fun hc354 => ?_) (fun hc354 => ?_)
            ·replace hm := bt hm hc354
             refine Cw.seq (Cw.region (Lw.g (vB false) rfl (Lw.nil ?_)))
             cases hm
             exact Cw.ret (ret1 rfl (Res.mk a339 rfl))
            ·replace hm := bf hm hc354
             refine Cw.skip (Cw.seq (Cw.region (Lw.g (vI 1) rfl (Lw.nil (Cw.seq (Cw.region (Lw.m v0_106 rfl (Lw.m (vI 1) rfl ?_))))))))
             obtain ⟨z355, e356, hm⟩ := ob hm
             refine Lw.t rfl (T.call rfl (p41 (K := [0])  (c0 := 11) (o331.up l337 rfl) rfl e356)) ?_
             rintro _ _ ⟨W357, rfl, l357, ⟨rfl, f357_0⟩⟩
             have a358 := a339.t l357 rfl
             refine Lw.g (vI z355.1) rfl (Lw.nil (Cw.seq (Cw.region (Lw.g (vI 1) rfl (Lw.nil (Cw.seq (Cw.region (Lw.m v0_106 rfl (Lw.m (vI 1) rfl ?_)))))))))
             obtain ⟨z372, e373, hm⟩ := ob hm
             refine Lw.t rfl (T.call rfl (p42 (K := [11])  f357_0.rd e373)) ?_
             rintro _ _ ⟨W374, rfl, l374, rfl⟩
             have a375 := a358.n l374
             refine Lw.g (vI z372) rfl (Lw.nil (Cw.seq (Cw.seq (Cw.region (Lw.m (vI z372) rfl (Lw.lt rfl (Lw.nil (Cw.cond (b := decide ((z372 : Int) < (0 : Int))) rfl (fun hc390 => ?_) (fun hc390 => ?_)))))))))
             ·replace hm := bt hm hc390
              refine Cw.seq (Cw.region (Lw.g (vB false) rfl (Lw.nil ?_)))
              cases hm
              exact Cw.ret (ret1 rfl (Res.mk a375 rfl))
             ·replace hm := bf hm hc390
              refine Cw.skip (Cw.seq (Cw.seq (Cw.region (Lw.m (vI z372) rfl (Lw.m (vI z355.1) rfl (Lw.ne rfl (Lw.nil (Cw.cond (b := ((z372 : Int) != (z355.1 : Int))) rfl (fun hc391 => ?_) (fun hc391 => ?_)))))))))
              ·replace hm := bt hm hc391
               refine Cw.seq (Cw.region (Lw.g (vB false) rfl (Lw.nil ?_)))
               cases hm
               exact Cw.ret (ret1 rfl (Res.mk a375 rfl))
              ·replace hm := bf hm hc391
               refine Cw.skip (Cw.seq (Cw.region (Lw.m v0_ rfl ?_)))
               obtain ⟨z393, e394, hm⟩ := ob hm
               refine Lw.t rfl (T.call rfl (p14 (K := [0]) (k0 := 16) (h0.ul a375) e394)) ?_
               rintro v0_395 _ ⟨W395, rfl, l395, ⟨_, rfl, f395_0⟩⟩
               have a396 := a375.n l395
               refine Lw.m v1_ rfl ?_
               obtain ⟨z412, e413, hm⟩ := ob hm
               refine Lw.t rfl (T.call rfl (p29 (K := [0]) (k0 := 17) (h1.ul a396) e413)) ?_
               rintro v0_414 _ ⟨W414, rfl, l414, ⟨_, rfl, f414_0⟩⟩
               have a415 := a396.n l414
               refine Lw.m v2_ rfl ?_
               obtain ⟨z432, e433, hm⟩ := ob hm
               refine Lw.t rfl (T.call rfl (p29 (K := [0]) (k0 := 18) (h2.ul a415) e433)) ?_
               rintro v0_434 _ ⟨W434, rfl, l434, ⟨_, rfl, f434_0⟩⟩
               have a435 := a415.n l434
               refine Lw.m v3_ rfl ?_
               obtain ⟨z453, e454, hm⟩ := ob hm
               refine Lw.t rfl (T.call rfl (p29 (K := [0]) (k0 := 19) (h3.ul a435) e454)) ?_
               rintro v0_455 _ ⟨W455, rfl, l455, ⟨_, rfl, f455_0⟩⟩
               have a456 := a435.n l455
               obtain ⟨z474, e475, hm⟩ := ob hm
               refine Lw.t rfl (T.call rfl (p37 (K := [16, 17, 18, 19]) (k0 := 20) ((((f395_0.up l414 rfl).up l434 rfl).up l455 rfl).rd.sub (M := [16, 17, 18, 19]) rfl) (((f414_0.up l434 rfl).up l455 rfl).rd.sub (M := [16, 17, 18, 19]) rfl) ((f434_0.up l455 rfl).rd.sub (M := [16, 17, 18, 19]) rfl) (f455_0.rd.sub (M := [16, 17, 18, 19]) rfl) e475)) ?_
               rintro _ _ ⟨W476, rfl, l476, ⟨v0_476, rfl, f476_0⟩⟩
               have a477 := a456.n l476
               refine Lw.m (.tuple [v0_476, vB z474.2].toArray) rfl (Lw.r rfl (R.ext (vs := [v0_476, vB z474.2]) (v := v0_476) rfl rfl) (Lw.r rfl (R.ext (vs := [v0_476, vB z474.2]) (v := vB z474.2) rfl rfl) (Lw.g v0_476 rfl (Lw.g (vB z474.2) rfl (Lw.nil (Cw.seq ?_))))))
               obtain ⟨K498, hK498, hm⟩ := jn_e hm
               refine Cw.join 148 156 [156] (fun l w => ∃ (y496 : Bool) (W497 : CW), W497.w = w ∧ Le [] W476 W497 ∧ l = [vB y496] ∧ K498 y496 = some r) ?_ ?_
               ·rintro _ _ σ ⟨y496, W497, rfl, l497, rfl, hm⟩
                rw [hK498] at hm
                have a499 := a477.n l497
                refine Cw.cond (b := y496) rfl (fun hc519 => ?_) (fun hc519 => ?_)
                ·replace hm := bt hm hc519
                 refine Cw.seq (Cw.region (Lw.g (vB false) rfl (Lw.nil ?_)))
                 cases hm
                 exact Cw.ret (ret1 rfl (Res.mk a499 rfl))
                ·replace hm := bf hm hc519
                 refine Cw.skip (Cw.seq (Cw.region (Lw.g (vI 1) rfl (Lw.nil (Cw.seq (Cw.region (Lw.m v0_106 rfl (Lw.m (vI 1) rfl ?_))))))))
                 obtain ⟨z520, e521, hm⟩ := ob hm
                 refine Lw.t rfl (T.call rfl (p42 (K := [11])  (((((((f357_0.up l374 rfl).up l395 rfl).up l414 rfl).up l434 rfl).up l455 rfl).up l476 rfl).up l497 rfl).rd e521)) ?_
                 rintro _ _ ⟨W522, rfl, l522, rfl⟩
                 have a523 := a499.n l522
                 refine Lw.g (vI z520) rfl (Lw.nil (Cw.seq (Cw.seq (Cw.region (Lw.m (vI z520) rfl (Lw.lt rfl (Lw.nil (Cw.cond (b := decide ((z520 : Int) < (0 : Int))) rfl (fun hc543 => ?_) (fun hc543 => ?_)))))))))
                 ·replace hm := bt hm hc543
                  refine Cw.seq (Cw.region (Lw.g (vB false) rfl (Lw.nil ?_)))
                  cases hm
                  exact Cw.ret (ret1 rfl (Res.mk a523 rfl))
                 ·replace hm := bf hm hc543
                  refine Cw.skip (Cw.seq (Cw.seq (Cw.region (Lw.m (vI z520) rfl (Lw.m (vI z355.1) rfl (Lw.ne rfl (Lw.nil (Cw.cond (b := ((z520 : Int) != (z355.1 : Int))) rfl (fun hc544 => ?_) (fun hc544 => ?_)))))))))
                  ·replace hm := bt hm hc544
                   refine Cw.seq (Cw.region (Lw.g (vB false) rfl (Lw.nil ?_)))
                   cases hm
                   exact Cw.ret (ret1 rfl (Res.mk a523 rfl))
                  ·replace hm := bf hm hc544
                   refine Cw.skip (Cw.seq (Cw.region (Lw.g (vB true) rfl (Lw.nil ?_))))
                   cases hm
                   exact Cw.ret (ret1 rfl (Res.mk a523 rfl))
               ·refine Cw.region (Lw.m v0_476 rfl (Lw.m v0_52 rfl ?_))
                obtain ⟨z545, e546, hm⟩ := ob hm
                refine Lw.t rfl (T.call rfl (p31 (K := [6, 20])  (f476_0.rd.sub (M := [6, 20]) rfl) (((((((((o327.up l337 rfl).up l357 rfl).up l374 rfl).up l395 rfl).up l414 rfl).up l434 rfl).up l455 rfl).up l476 rfl).rd.sub (M := [6, 20]) rfl) e546)) ?_
                rintro _ _ ⟨W547, rfl, l547, rfl⟩
                refine Lw.r rfl (R.not rfl) (Lw.m (vB (!z545)) rfl (bsplit (!z545) (fun hc568 => ?_) (fun hc568 => ?_)))
                ·replace hm := bt hm hc568
                 refine Lw.pass' hc568 rfl rfl rfl rfl rfl rfl rfl (Lw.pass' hc568 rfl rfl rfl rfl rfl rfl rfl (Lw.pass' hc568 rfl rfl rfl rfl rfl rfl rfl (Lw.p hc568 (vB true) rfl (Lw.nil (⟨?_, ⟨true, W547, rfl, l547, rfl, hm⟩⟩)))))
                 iterate 9 (refine Agree.up rfl ?_)
                 exact Agree.refl _
                ·replace hm := bf hm hc568
                 refine Lw.want' hc568 rfl rfl rfl rfl (Lw.m (vB z474.2) rfl (Lw.want' hc568 rfl rfl rfl rfl (Lw.m (vB z50.2) rfl (Lw.want' hc568 rfl rfl rfl rfl (Lw.r rfl (R.bne rfl rfl) (Lw.p hc568 (vB (z474.2 != z50.2)) rfl (Lw.nil (⟨?_, ⟨(z474.2 != z50.2), W547, rfl, l547, rfl, hm⟩⟩))))))))
                 iterate 9 (refine Agree.up rfl ?_)
                 exact Agree.refl _
           ·refine Cw.region (Lw.m (vI z319.1) rfl (Lw.lt rfl (Lw.m (vB (decide ((z319.1 : Int) < (0 : Int)))) rfl (bsplit (decide ((z319.1 : Int) < (0 : Int))) (fun hc569 => ?_) (fun hc569 => ?_)))))
            ·replace hm := bt hm hc569
             refine Lw.pass' hc569 rfl rfl rfl rfl rfl rfl rfl (Lw.pass' hc569 rfl rfl rfl rfl rfl rfl rfl (Lw.pass' hc569 rfl rfl rfl rfl rfl rfl rfl (Lw.pass' hc569 rfl rfl rfl rfl rfl rfl rfl (Lw.p hc569 (vB true) rfl (Lw.m (vB true) rfl (Lw.pass' rfl rfl rfl rfl rfl rfl rfl rfl (Lw.pass' rfl rfl rfl rfl rfl rfl rfl rfl (Lw.pass' rfl rfl rfl rfl rfl rfl rfl rfl (Lw.p rfl (vB true) rfl (Lw.nil (⟨?_, ⟨true, W321, rfl, Le.refl _ _, rfl, hm⟩⟩)))))))))))
             iterate 13 (refine Agree.up rfl ?_)
             exact Agree.refl _
            ·replace hm := bf hm hc569
             refine Lw.want' hc569 rfl rfl rfl rfl (Lw.m v0_106 rfl (Lw.want' hc569 rfl rfl rfl rfl (Lw.m v0_52 rfl (Lw.want' hc569 rfl rfl rfl rfl ?_))))
             obtain ⟨z570, e571, hm⟩ := ob hm
             refine Lw.t rfl (T.call rfl (p31 (K := [6, 11])  (o331.rd.sub (M := [6, 11]) rfl) (o327.rd.sub (M := [6, 11]) rfl) e571)) ?_
             rintro _ _ ⟨W572, rfl, l572, rfl⟩
             refine Lw.want' hc569 rfl rfl rfl rfl (Lw.r rfl (R.not rfl) (Lw.p hc569 (vB (!z570)) rfl (Lw.m (vB (!z570)) rfl (bsplit (!z570) (fun hc588 => ?_) (fun hc588 => ?_)))))
             ·replace hm := bt hm hc588
              refine Lw.pass' hc588 rfl rfl rfl rfl rfl rfl rfl (Lw.pass' hc588 rfl rfl rfl rfl rfl rfl rfl (Lw.pass' hc588 rfl rfl rfl rfl rfl rfl rfl (Lw.p hc588 (vB true) rfl (Lw.nil (⟨?_, ⟨true, W572, rfl, l572, rfl, hm⟩⟩)))))
              iterate 13 (refine Agree.up rfl ?_)
              exact Agree.refl _
             ·replace hm := bf hm hc588
              refine Lw.want' hc588 rfl rfl rfl rfl (Lw.m (vB z104.2) rfl (Lw.want' hc588 rfl rfl rfl rfl (Lw.m (vB z50.2) rfl (Lw.want' hc588 rfl rfl rfl rfl (Lw.r rfl (R.bne rfl rfl) (Lw.p hc588 (vB (z104.2 != z50.2)) rfl (Lw.nil (⟨?_, ⟨(z104.2 != z50.2), W572, rfl, l572, rfl, hm⟩⟩))))))))
              iterate 13 (refine Agree.up rfl ?_)
              exact Agree.refl _
     ·refine Cw.region (Lw.m v0_106 rfl (Lw.m v0_52 rfl ?_))
      obtain ⟨z589, e590, hm⟩ := ob hm
      refine Lw.t rfl (T.call rfl (p31 (K := [6, 11])  (f106_0.rd.sub (M := [6, 11]) rfl) (o112.rd.sub (M := [6, 11]) rfl) e590)) ?_
      rintro _ _ ⟨W591, rfl, l591, rfl⟩
      refine Lw.r rfl (R.not rfl) (Lw.m (vB (!z589)) rfl (bsplit (!z589) (fun hc603 => ?_) (fun hc603 => ?_)))
      ·replace hm := bt hm hc603
       refine Lw.pass' hc603 rfl rfl rfl rfl rfl rfl rfl (Lw.pass' hc603 rfl rfl rfl rfl rfl rfl rfl (Lw.pass' hc603 rfl rfl rfl rfl rfl rfl rfl (Lw.p hc603 (vB true) rfl (Lw.nil (⟨?_, ⟨true, W591, rfl, l591, rfl, hm⟩⟩)))))
       iterate 9 (refine Agree.up rfl ?_)
       exact Agree.refl _
      ·replace hm := bf hm hc603
       refine Lw.want' hc603 rfl rfl rfl rfl (Lw.m (vB z104.2) rfl (Lw.want' hc603 rfl rfl rfl rfl (Lw.m (vB z50.2) rfl (Lw.want' hc603 rfl rfl rfl rfl (Lw.r rfl (R.bne rfl rfl) (Lw.p hc603 (vB (z104.2 != z50.2)) rfl (Lw.nil (⟨?_, ⟨(z104.2 != z50.2), W591, rfl, l591, rfl, hm⟩⟩))))))))
       iterate 9 (refine Agree.up rfl ?_)
       exact Agree.refl _

theorem p8 {W : CW} {K : List Nat} {x0 : List Vm.Memo} {v0_ : Value} {x1 : List Str} {v1_ : Value} {x2 : List Str} {v2_ : Value} {x3 : List Str} {v3_ : Value} {r : Bool} (h0 : Rd W K [v0_] x0) (h1 : Rd W K [v1_] x1) (h2 : Rd W K [v2_] x2) (h3 : Rd W K [v3_] x3) (hm : Vm.laws_FnExactMemoText x0 x1 x2 x3 = some r) : CallR Try.prog 8 [v0_, v1_, v2_, v3_].toArray W.w (Res W [] fun W' v => v = vB r) :=
 (c8 (V := W.view K []) (h0.view _) (h1.view _) (h2.view _) (h3.view _) hm).ad (fk 0) fun _ _ e => e

end Go.Sx
