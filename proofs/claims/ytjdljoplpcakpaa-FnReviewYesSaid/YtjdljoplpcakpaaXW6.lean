/- Walks: each function answers as its model, printed by a program of ours. Conditions: the arguments read as they are given. -/
import Derived.Test.YtjdljoplpcakpaaXTs
import Derived.Test.YtjdljoplpcakpaaXMd
import Derived.Test.YtjdljoplpcakpaaXW0
namespace Go.Sx
open Go Go.Proofs Go.Vm Rp
set_option linter.unusedVariables false
set_option linter.unusedSimpArgs false

theorem c104 {V : CW} {x0 : List Str} {v0_ : Value} {x1 : List Str} {v1_ : Value} {r : (List (List Int))} (h0 : Rd V [0] [v0_] x0) (h1 : Rd V [0] [v1_] x1) (hm : Vm.spec_l1Table x0 x1 = some r) : CallR Try.prog 104 [v0_, v1_].toArray V.w (Res V LL fun Wf v => ∃ (u0 : Value), v = u0 ∧ OwS Wf LL [] [u0] r) := by
 unfold Vm.spec_l1Table at hm
 obtain ⟨W0, hW0⟩ : ∃ W, W = V := ⟨V, rfl⟩
 subst hW0
 refine CallR.of Try.func104 rfl rfl rfl rfl (Cw.seq (Cw.region (Lw.g (.slice none 0 0) rfl (Lw.nil (Cw.seq (Cw.region (Lw.t rfl (T.lit0 (α := List Int) 2 []) ?_)))))))
 rintro v1 _ ⟨W1, rfl, l1, o1⟩
 have a2 := l1.o
 refine Lw.g v1 rfl (Lw.nil (Cw.seq (Cw.seq (Cw.region (Lw.g (vI 0) rfl (Lw.nil (Cw.block ?_)))))))
 obtain ⟨K8, hK8, hm⟩ := jn_e hm
 refine Cw.loop 10 22 [5, 6] (fun m l w => ∃ (y3 : List (List Int)) (y6 : Int) (v4 : Value) (W7 : CW), W7.w = w ∧ Le [2, 3] W1 W7 ∧ l = [v4, vI y6] ∧ Ow W7 2 [] [v4] y3 ∧ Vm.spec_l1Table_l1 x0 x1 K8 m y3 y6 = some r) (((x0.length : Int) + 1 - 0).toNat + 1) ⟨([] : List (List Int)), 0, v1, W1, rfl, Le.refl _ _, rfl, o1, hm⟩ ?_
 rintro m9 _ _ σ ⟨y3, y6, v4, W7, rfl, l7, rfl, o5, hm⟩
 obtain _ | m9 := m9
 ·cases hm
 unfold Vm.spec_l1Table_l1 at hm
 have a10 := a2.t l7 rfl
 refine Cw.seq (Cw.seq (Cw.region (Lw.m (vI y6) rfl (Lw.m v0_ rfl (Lw.ln x0 (h0.ul a10) rfl (Lw.le rfl (Lw.nil (Cw.cond (b := decide ((y6 : Int) ≤ ((x0.length : Int) : Int))) rfl (fun hc12 => ?_) (fun hc12 => ?_)))))))))
 ·replace hm := bt hm hc12
  refine Cw.skip (Cw.seq (Cw.block (Cw.region (Lw.m v4 rfl (Lw.m v1_ rfl (Lw.ln x1 (h1.ul a10) rfl (Lw.add rfl ?_)))))))
  obtain ⟨q14, e15, hm⟩ := ob hm
  refine Lw.t rfl (T.mk (α := Int) 3 [] (n := w64 ((x1.length : Int) + 1)) rfl rfl e15) ?_
  rintro v16 _ ⟨W16, rfl, l16, o16⟩
  refine Lw.t rfl (T.bs 4 [v16] (cs := [v16]) (bsc o16.oc) rfl (bsv o16.oc)) ?_
  rintro _ _ ⟨g19, W19, rfl, rfl, l19, b19⟩
  obtain ⟨q23, e24, hm⟩ := ob hm
  refine Lw.t rfl (T.app1 (α := List Int) (J := [3]) (K' := []) ((o5.up l16 rfl).up l19 rfl) b19 (o16.up l19 rfl).s rfl rfl e24) ?_
  rintro v25 _ ⟨W25, rfl, l25, o25⟩
  refine Lw.g v25 rfl (Lw.nil (Cw.region (Lw.m (vI y6) rfl (Lw.add rfl (Lw.g (vI (w64 (y6 + 1))) rfl (Lw.nil (⟨?_, m9, Nat.lt_succ_self m9, ⟨q23, w64 (y6 + 1), v25, W25, rfl, (l7.trans ((l16.sub rfl).trans ((l19.sub rfl).trans l25))), rfl, o25, hm⟩⟩)))))))
  iterate 15 (refine Agree.up rfl ?_)
  iterate 2 (refine Agree.up rfl ?_)
  exact Agree.base
 ·replace hm := bf hm hc12
  refine Cw.exit ?_
  rw [hK8] at hm
  refine Cw.seq (Cw.seq (Cw.region (Lw.m v0_ rfl (Lw.ln x0 (h0.ul a10) rfl (Lw.sub rfl (Lw.g (vI (w64 ((x0.length : Int) - 1))) rfl (Lw.nil (Cw.block ?_))))))))
  obtain ⟨K33, hK33, hm⟩ := jn_e hm
  refine Cw.loop 26 108 [7, 8] (fun m l w => ∃ (y28 : Int) (y30 : List (List Int)) (j29 : Value) (W32 : CW), W32.w = w ∧ Le [2, 5, 6, 7] W7 W32 ∧ l = [vI y28, j29] ∧ Ow W32 2 [] [v4] y30 ∧ Vm.spec_l1Table_l2 x0 x1 K33 m y28 y30 = some r) (((w64 ((x0.length : Int) - 1)) + 1 - 0).toNat + 1) ⟨w64 ((x0.length : Int) - 1), y3, undef, W7, rfl, Le.refl _ _, rfl, o5, hm⟩ ?_
  rintro m34 _ _ σ ⟨y28, y30, j29, W32, rfl, l32, rfl, o31, hm⟩
  obtain _ | m34 := m34
  ·cases hm
  unfold Vm.spec_l1Table_l2 at hm
  have a35 := a10.t l32 rfl
  refine Cw.seq (Cw.seq (Cw.region (Lw.m (vI y28) rfl (Lw.ge rfl (Lw.nil (Cw.cond (b := decide ((0 : Int) ≤ (y28 : Int))) rfl (fun hc36 => ?_) (fun hc36 => ?_)))))))
  ·replace hm := bt hm hc36
   refine Cw.skip (Cw.seq (Cw.block (Cw.seq (Cw.region (Lw.m v1_ rfl (Lw.ln x1 (h1.ul a35) rfl (Lw.sub rfl (Lw.g (vI (w64 ((x1.length : Int) - 1))) rfl (Lw.nil (Cw.block ?_))))))))))
   obtain ⟨K42, hK42, hm⟩ := jn_e hm
   refine Cw.loop 33 108 [8] (fun m l w => ∃ (y38 : Int) (y39 : List (List Int)) (W41 : CW), W41.w = w ∧ Le [2, 5, 6, 7] W32 W41 ∧ l = [vI y38] ∧ Ow W41 2 [] [v4] y39 ∧ Vm.spec_l1Table_l3 x0 x1 y28 K42 m y38 y39 = some r) (((w64 ((x1.length : Int) - 1)) + 1 - 0).toNat + 1) ⟨w64 ((x1.length : Int) - 1), y30, W32, rfl, Le.refl _ _, rfl, o31, hm⟩ ?_
   rintro m43 _ _ σ ⟨y38, y39, W41, rfl, l41, rfl, o40, hm⟩
   obtain _ | m43 := m43
   ·cases hm
   unfold Vm.spec_l1Table_l3 at hm
   have a44 := a35.t l41 rfl
   refine Cw.seq (Cw.seq (Cw.region (Lw.m (vI y38) rfl (Lw.ge rfl (Lw.nil (Cw.cond (b := decide ((0 : Int) ≤ (y38 : Int))) rfl (fun hc45 => ?_) (fun hc45 => ?_)))))))
   ·replace hm := bt hm hc45
    refine Cw.skip ?_
    obtain ⟨K49, hK49, hm⟩ := jn_e hm
    refine Cw.join 37 108 [] (fun l w => ∃ (y46 : List (List Int)) (W48 : CW), W48.w = w ∧ Le [2, 5, 6, 7] W41 W48 ∧ l = [] ∧ Ow W48 2 [] [v4] y46 ∧ K49 y46 = some r) ?_ ?_
    ·rintro _ _ σ ⟨y46, W48, rfl, l48, rfl, o47, hm⟩
     rw [hK49] at hm
     refine Cw.region (Lw.m (vI y38) rfl (Lw.sub rfl (Lw.g (vI (w64 (y38 - 1))) rfl (Lw.nil (⟨?_, m43, Nat.lt_succ_self m43, ⟨w64 (y38 - 1), y46, W48, rfl, (l41.trans l48), rfl, o47, hm⟩⟩)))))
     iterate 3 (refine Agree.up rfl ?_)
     refine Agree.ov0 rfl ?_
     iterate 2 (refine Agree.up rfl ?_)
     iterate 1 (refine Agree.up rfl ?_)
     exact Agree.base
    ·refine Cw.block (Cw.block (Cw.seq (Cw.draw [] [(0, 0), (1, 0), (2, 0), (3, 1), (4, 0), (5, 0), (6, 0), (7, 1), (8, 0), (9, 0)] mixed (by kernel_rfl) fun W51 l51 => ?_)))
     have a52 := a44.n l51
     refine Mw.p rfl rfl (fun _ => R.mv (v := v0_) rfl) (Mw.p rfl rfl (fun _ => R.mv (v := vI y28) rfl) ?_)
     obtain ⟨u54, e55, hm⟩ := ob hm
     refine Mw.p rfl rfl (fun _ => R.ix (α := Str) (h0.ul a52) e55 rfl rfl rfl) (Mw.q rfl rfl (fun _ c => R.ld rfl rfl (cl_cell ((h0.ul a52).at_ e55).1 rfl ((h0.ul a52).at_ e55).str c)) (Mw.p rfl rfl (fun _ => R.mv (v := v1_) rfl) (Mw.p rfl rfl (fun _ => R.mv (v := vI y38) rfl) ?_)))
     obtain ⟨u57, e58, hm⟩ := ob hm
     refine Mw.p rfl rfl (fun _ => R.ix (α := Str) (h1.ul a52) e58 rfl rfl rfl) (Mw.q rfl rfl (fun _ c => R.ld rfl rfl (cl_cell ((h1.ul a52).at_ e58).1 rfl ((h1.ul a52).at_ e58).str c)) (Mw.p rfl rfl (fun _ => R.seq rfl rfl) (Mw.p rfl rfl (fun _ => R.as (v := vB (u54 == u57)) rfl) (Mw.nil (Cw.cond (b := (u54 == u57)) rfl (fun hc60 => ?_) (fun hc60 => ?_))))))
     ·replace hm := bt hm hc60
      refine Cw.draw [] [(0, 0), (1, 0), (2, 0), (3, 1), (4, 0), (5, 0), (6, 0), (7, 0), (8, 0), (9, 1), (10, 0), (11, 0), (12, 0), (13, 1), (14, 0), (15, 0), (16, 3)] mixed (by kernel_rfl) fun W61 l61 => ?_
      have o63 := (o40.up l51 rfl).up l61 rfl
      refine Mw.p rfl rfl (fun _ => R.mv (v := v4) rfl) (Mw.p rfl rfl (fun _ => R.mv (v := vI y28) rfl) ?_)
      obtain ⟨u64, e65, hm⟩ := ob hm
      refine Mw.p rfl rfl (fun _ => R.ix (α := List Int) o63.rd e65 rfl rfl rfl) ?_
      obtain ⟨v66, c67, r68⟩ := (o63.rd.at_ e65).cell rfl
      refine Mw.q rfl rfl (fun _ c => R.ld rfl rfl (cl_cell (o63.rd.at_ e65).1 rfl c67 c)) (Mw.p rfl rfl (fun _ => R.mv (v := vI y38) rfl) (Mw.p rfl rfl (fun _ => R.mv (v := v4) rfl) (Mw.p rfl rfl (fun _ => R.mv (v := vI y28) rfl) (Mw.p rfl rfl (fun _ => R.add rfl rfl) ?_))))
      obtain ⟨u69, e70, hm⟩ := ob hm
      refine Mw.p rfl rfl (fun _ => R.ix (α := List Int) o63.rd e70 rfl rfl rfl) ?_
      obtain ⟨v71, c72, r73⟩ := (o63.rd.at_ e70).cell rfl
      refine Mw.q rfl rfl (fun _ c => R.ld rfl rfl (cl_cell (o63.rd.at_ e70).1 rfl c72 c)) (Mw.p rfl rfl (fun _ => R.mv (v := vI y38) rfl) (Mw.p rfl rfl (fun _ => R.add rfl rfl) ?_))
      obtain ⟨u74, e75, hm⟩ := ob hm
      refine Mw.p rfl rfl (fun _ => R.ix (α := Int) r73 e75 rfl rfl rfl) (Mw.q rfl rfl (fun _ c => R.ld rfl rfl (cl_cell (r73.at_ e75).1 rfl (r73.at_ e75).int c)) (Mw.p rfl rfl (fun _ => R.add rfl rfl) ?_))
      obtain ⟨u76, e77, hm⟩ := ob hm
      refine Mw.p rfl rfl (fun _ => R.ix (α := Int) r68 e77 rfl rfl rfl) ?_
      obtain ⟨W78, ew78, l78, o78, gb78⟩ := Ow.lend (α := List Int) (β := List Int) (j := 5) (jf := 0) o63 e65 (by rw [h_add0]; exact c67) rfl
      rw [← ew78]
      obtain ⟨q81, e82, hm⟩ := ob hm
      refine Mw.lu rfl (T.stS (K' := []) o78 (rdI _) e82 rfl rfl rfl) ?_
      rintro _ _ ⟨W80, rfl, l80, o80⟩
      obtain ⟨W85, ew85, l85, q85, eq85, o85⟩ := gb78 _ _ l80 o80
      obtain ⟨q85_, eqm85, hm⟩ := ob hm
      obtain rfl : q85_ = q85 := Option.some.inj (eqm85.symm.trans eq85)
      rw [← ew85]
      refine Mw.nil (⟨?_, ⟨q85_, W85, rfl, ((l51.sub rfl).trans ((l61.sub rfl).trans ((l78.sub rfl).trans ((l80.sub rfl).trans (l85.sub rfl))))), rfl, o85, hm⟩⟩)
      iterate 26 (refine Agree.up rfl ?_)
      exact Agree.refl _
     ·replace hm := bf hm hc60
      refine Cw.seq (Cw.draw [] [(0, 0), (1, 0), (2, 0), (3, 0), (4, 1), (5, 0), (6, 0), (7, 1), (8, 0), (9, 0), (10, 0), (11, 1), (12, 0), (13, 0), (14, 0), (15, 1), (16, 0), (17, 0)] mixed (by kernel_rfl) fun W87 l87 => ?_)
      have o89 := (o40.up l51 rfl).up l87 rfl
      refine Mw.p rfl rfl (fun _ => R.mv (v := v4) rfl) (Mw.p rfl rfl (fun _ => R.mv (v := vI y28) rfl) (Mw.p rfl rfl (fun _ => R.add rfl rfl) ?_))
      obtain ⟨u90, e91, hm⟩ := ob hm
      refine Mw.p rfl rfl (fun _ => R.ix (α := List Int) o89.rd e91 rfl rfl rfl) ?_
      obtain ⟨v92, c93, r94⟩ := (o89.rd.at_ e91).cell rfl
      refine Mw.q rfl rfl (fun _ c => R.ld rfl rfl (cl_cell (o89.rd.at_ e91).1 rfl c93 c)) (Mw.p rfl rfl (fun _ => R.mv (v := vI y38) rfl) ?_)
      obtain ⟨u95, e96, hm⟩ := ob hm
      refine Mw.p rfl rfl (fun _ => R.ix (α := Int) r94 e96 rfl rfl rfl) (Mw.q rfl rfl (fun _ c => R.ld rfl rfl (cl_cell (r94.at_ e96).1 rfl (r94.at_ e96).int c)) (Mw.p rfl rfl (fun _ => R.mv (v := v4) rfl) (Mw.p rfl rfl (fun _ => R.mv (v := vI y28) rfl) ?_)))
      obtain ⟨u97, e98, hm⟩ := ob hm
      refine Mw.p rfl rfl (fun _ => R.ix (α := List Int) o89.rd e98 rfl rfl rfl) ?_
      obtain ⟨v99, c100, r101⟩ := (o89.rd.at_ e98).cell rfl
      refine Mw.q rfl rfl (fun _ c => R.ld rfl rfl (cl_cell (o89.rd.at_ e98).1 rfl c100 c)) (Mw.p rfl rfl (fun _ => R.mv (v := vI y38) rfl) (Mw.p rfl rfl (fun _ => R.add rfl rfl) ?_))
      obtain ⟨u102, e103, hm⟩ := ob hm
      refine Mw.p rfl rfl (fun _ => R.ix (α := Int) r101 e103 rfl rfl rfl) (Mw.q rfl rfl (fun _ c => R.ld rfl rfl (cl_cell (r101.at_ e103).1 rfl (r101.at_ e103).int c)) (Mw.p rfl rfl (fun _ => R.ge rfl rfl) (Mw.p rfl rfl (fun _ => R.as (v := vB (decide ((u102 : Int) ≤ (u95 : Int)))) rfl) (Mw.nil (Cw.cond (b := decide ((u102 : Int) ≤ (u95 : Int))) rfl (fun hc104 => ?_) (fun hc104 => ?_))))))
      ·replace hm := bt hm hc104
       refine Cw.draw [] [(0, 0), (1, 0), (2, 0), (3, 1), (4, 0), (5, 0), (6, 0), (7, 0), (8, 0), (9, 1), (10, 0), (11, 0), (12, 1), (13, 0), (14, 3)] mixed (by kernel_rfl) fun W105 l105 => ?_
       have o107 := o89.up l105 rfl
       refine Mw.p rfl rfl (fun _ => R.mv (v := v4) rfl) (Mw.p rfl rfl (fun _ => R.mv (v := vI y28) rfl) ?_)
       obtain ⟨u108, e109, hm⟩ := ob hm
       refine Mw.p rfl rfl (fun _ => R.ix (α := List Int) o107.rd e109 rfl rfl rfl) ?_
       obtain ⟨v110, c111, r112⟩ := (o107.rd.at_ e109).cell rfl
       refine Mw.q rfl rfl (fun _ c => R.ld rfl rfl (cl_cell (o107.rd.at_ e109).1 rfl c111 c)) (Mw.p rfl rfl (fun _ => R.mv (v := vI y38) rfl) (Mw.p rfl rfl (fun _ => R.mv (v := v4) rfl) (Mw.p rfl rfl (fun _ => R.mv (v := vI y28) rfl) (Mw.p rfl rfl (fun _ => R.add rfl rfl) ?_))))
       obtain ⟨u113, e114, hm⟩ := ob hm
       refine Mw.p rfl rfl (fun _ => R.ix (α := List Int) o107.rd e114 rfl rfl rfl) ?_
       obtain ⟨v115, c116, r117⟩ := (o107.rd.at_ e114).cell rfl
       refine Mw.q rfl rfl (fun _ c => R.ld rfl rfl (cl_cell (o107.rd.at_ e114).1 rfl c116 c)) (Mw.p rfl rfl (fun _ => R.mv (v := vI y38) rfl) ?_)
       obtain ⟨u118, e119, hm⟩ := ob hm
       refine Mw.p rfl rfl (fun _ => R.ix (α := Int) r117 e119 rfl rfl rfl) (Mw.q rfl rfl (fun _ c => R.ld rfl rfl (cl_cell (r117.at_ e119).1 rfl (r117.at_ e119).int c)) ?_)
       obtain ⟨u120, e121, hm⟩ := ob hm
       refine Mw.p rfl rfl (fun _ => R.ix (α := Int) r112 e121 rfl rfl rfl) ?_
       obtain ⟨W122, ew122, l122, o122, gb122⟩ := Ow.lend (α := List Int) (β := List Int) (j := 6) (jf := 0) o107 e109 (by rw [h_add0]; exact c111) rfl
       rw [← ew122]
       obtain ⟨q125, e126, hm⟩ := ob hm
       refine Mw.lu rfl (T.stS (K' := []) o122 (rdI _) e126 rfl rfl rfl) ?_
       rintro _ _ ⟨W124, rfl, l124, o124⟩
       obtain ⟨W129, ew129, l129, q129, eq129, o129⟩ := gb122 _ _ l124 o124
       obtain ⟨q129_, eqm129, hm⟩ := ob hm
       obtain rfl : q129_ = q129 := Option.some.inj (eqm129.symm.trans eq129)
       rw [← ew129]
       refine Mw.nil (⟨?_, ⟨q129_, W129, rfl, ((l51.sub rfl).trans ((l87.sub rfl).trans ((l105.sub rfl).trans ((l122.sub rfl).trans ((l124.sub rfl).trans (l129.sub rfl)))))), rfl, o129, hm⟩⟩)
       iterate 42 (refine Agree.up rfl ?_)
       exact Agree.refl _
      ·replace hm := bf hm hc104
       refine Cw.draw [] [(0, 0), (1, 0), (2, 0), (3, 1), (4, 0), (5, 0), (6, 0), (7, 0), (8, 1), (9, 0), (10, 0), (11, 0), (12, 1), (13, 0), (14, 3)] mixed (by kernel_rfl) fun W131 l131 => ?_
       have o133 := o89.up l131 rfl
       refine Mw.p rfl rfl (fun _ => R.mv (v := v4) rfl) (Mw.p rfl rfl (fun _ => R.mv (v := vI y28) rfl) ?_)
       obtain ⟨u134, e135, hm⟩ := ob hm
       refine Mw.p rfl rfl (fun _ => R.ix (α := List Int) o133.rd e135 rfl rfl rfl) ?_
       obtain ⟨v136, c137, r138⟩ := (o133.rd.at_ e135).cell rfl
       refine Mw.q rfl rfl (fun _ c => R.ld rfl rfl (cl_cell (o133.rd.at_ e135).1 rfl c137 c)) (Mw.p rfl rfl (fun _ => R.mv (v := vI y38) rfl) (Mw.p rfl rfl (fun _ => R.mv (v := v4) rfl) (Mw.p rfl rfl (fun _ => R.mv (v := vI y28) rfl) ?_)))
       obtain ⟨u139, e140, hm⟩ := ob hm
       refine Mw.p rfl rfl (fun _ => R.ix (α := List Int) o133.rd e140 rfl rfl rfl) ?_
       obtain ⟨v141, c142, r143⟩ := (o133.rd.at_ e140).cell rfl
       refine Mw.q rfl rfl (fun _ c => R.ld rfl rfl (cl_cell (o133.rd.at_ e140).1 rfl c142 c)) (Mw.p rfl rfl (fun _ => R.mv (v := vI y38) rfl) (Mw.p rfl rfl (fun _ => R.add rfl rfl) ?_))
       obtain ⟨u144, e145, hm⟩ := ob hm
       refine Mw.p rfl rfl (fun _ => R.ix (α := Int) r143 e145 rfl rfl rfl) (Mw.q rfl rfl (fun _ c => R.ld rfl rfl (cl_cell (r143.at_ e145).1 rfl (r143.at_ e145).int c)) ?_)
       obtain ⟨u146, e147, hm⟩ := ob hm
       refine Mw.p rfl rfl (fun _ => R.ix (α := Int) r138 e147 rfl rfl rfl) ?_
       obtain ⟨W148, ew148, l148, o148, gb148⟩ := Ow.lend (α := List Int) (β := List Int) (j := 7) (jf := 0) o133 e135 (by rw [h_add0]; exact c137) rfl
       rw [← ew148]
       obtain ⟨q151, e152, hm⟩ := ob hm
       refine Mw.lu rfl (T.stS (K' := []) o148 (rdI _) e152 rfl rfl rfl) ?_
       rintro _ _ ⟨W150, rfl, l150, o150⟩
       obtain ⟨W155, ew155, l155, q155, eq155, o155⟩ := gb148 _ _ l150 o150
       obtain ⟨q155_, eqm155, hm⟩ := ob hm
       obtain rfl : q155_ = q155 := Option.some.inj (eqm155.symm.trans eq155)
       rw [← ew155]
       refine Mw.nil (⟨?_, ⟨q155_, W155, rfl, ((l51.sub rfl).trans ((l87.sub rfl).trans ((l131.sub rfl).trans ((l148.sub rfl).trans ((l150.sub rfl).trans (l155.sub rfl)))))), rfl, o155, hm⟩⟩)
       iterate 42 (refine Agree.up rfl ?_)
       exact Agree.refl _
   ·replace hm := bf hm hc45
    refine Cw.exit ?_
    rw [hK42] at hm
    refine Cw.region (Lw.m (vI y28) rfl (Lw.sub rfl (Lw.g (vI (w64 (y28 - 1))) rfl (Lw.nil (⟨?_, m34, Nat.lt_succ_self m34, ⟨w64 (y28 - 1), y39, vI y38, W41, rfl, (l32.trans l41), rfl, o40, hm⟩⟩)))))
    iterate 5 (refine Agree.up rfl ?_)
    iterate 1 (refine Agree.up rfl ?_)
    refine Agree.ov0 rfl ?_
    iterate 6 (refine Agree.up rfl ?_)
    iterate 2 (refine Agree.up rfl ?_)
    exact Agree.base
  ·replace hm := bf hm hc36
   refine Cw.exit ?_
   rw [hK33] at hm
   refine Cw.seq (Cw.region (Lw.m v4 rfl (Lw.g v4 rfl (Lw.nil ?_))))
   cases hm
   exact Cw.ret (ret1 rfl (Res.mk a35 ⟨v4, rfl, o31.s.sub rfl rfl⟩))

theorem p104 {W : CW} {K : List Nat} {x0 : List Str} {v0_ : Value} {x1 : List Str} {v1_ : Value} {k0 : Nat} {r : (List (List Int))} (h0 : Rd W K [v0_] x0) (h1 : Rd W K [v1_] x1) (hm : Vm.spec_l1Table x0 x1 = some r) : CallR Try.prog 104 [v0_, v1_].toArray W.w (Res W [] fun W' v => ∃ (u0 : Value), v = u0 ∧ Ow W' k0 [] [u0] r) :=
 (c104 (V := W.view K []) (h0.view _) (h1.view _) hm).ad (fk k0) fun _ _ ⟨u0, e, f0⟩ => ⟨u0, e, f0.back (fk_LL _)⟩

theorem c93 {V : CW} {x0 : List Str} {v0_ : Value} {x1 : List Str} {v1_ : Value} {r : (List Int)} (h0 : Rd V [0] [v0_] x0) (h1 : Rd V [0] [v1_] x1) (hm : Vm.spec_l1Match x0 x1 = some r) : CallR Try.prog 93 [v0_, v1_].toArray V.w (Res V LL fun Wf v => ∃ (u0 : Value), v = u0 ∧ OwS Wf LL [] [u0] r) := by
 unfold Vm.spec_l1Match at hm
 obtain ⟨W0, hW0⟩ : ∃ W, W = V := ⟨V, rfl⟩
 subst hW0
 refine CallR.of Try.func93 rfl rfl rfl rfl (Cw.seq (Cw.region (Lw.g (.slice none 0 0) rfl (Lw.nil (Cw.seq (Cw.region (Lw.m v0_ rfl (Lw.m v1_ rfl ?_))))))))
 obtain ⟨z1, e2, hm⟩ := ob hm
 refine Lw.t rfl (T.call rfl (p104 (K := [0]) (k0 := 2) h0 h1 e2)) ?_
 rintro v0_3 _ ⟨W3, rfl, l3, ⟨_, rfl, f3_0⟩⟩
 have a4 := l3.o
 refine Lw.g v0_3 rfl (Lw.nil (Cw.seq (Cw.region (Lw.t rfl (T.lit0 (α := Int) 3 []) ?_))))
 rintro v5 _ ⟨W5, rfl, l5, o5⟩
 have a6 := a4.n l5
 refine Lw.g v5 rfl (Lw.nil (Cw.seq (Cw.region (Lw.g (vI 0) rfl (Lw.nil (Cw.seq (Cw.seq (Cw.region (Lw.g (vI 0) rfl (Lw.nil (Cw.block ?_)))))))))))
 obtain ⟨K14, hK14, hm⟩ := jn_e hm
 refine Cw.loop 13 71 [6, 7, 8] (fun m l w => ∃ (y8 : List Int) (y11 : Int) (y12 : Int) (v9 : Value) (W13 : CW), W13.w = w ∧ Le [3] W5 W13 ∧ l = [v9, vI y11, vI y12] ∧ Ow W13 3 [] [v9] y8 ∧ Vm.spec_l1Match_l1 x0 x1 z1 K14 m y8 y11 y12 = some r) (x0.length + x1.length + 1) ⟨([] : List Int), 0, 0, v5, W5, rfl, Le.refl _ _, rfl, o5, hm⟩ ?_
 rintro m15 _ _ σ ⟨y8, y11, y12, v9, W13, rfl, l13, rfl, o10, hm⟩
 obtain _ | m15 := m15
 ·cases hm
 unfold Vm.spec_l1Match_l1 at hm
 have a16 := a6.t l13 rfl
 refine Cw.seq (Cw.seq (Cw.region (Lw.m (vI y12) rfl (Lw.m v0_ rfl (Lw.ln x0 (h0.ul a16) rfl (Lw.lt rfl (Lw.nil (Cw.cond (b := decide ((y12 : Int) < ((x0.length : Int) : Int))) rfl (fun hc19 => ?_) (fun hc19 => ?_)))))))))
 ·replace hm := bt hm hc19
  refine Cw.skip (Cw.block (Cw.block ?_))
  obtain ⟨K22, hK22, hm⟩ := jn_e hm
  refine Cw.join 19 34 [19] (fun l w => ∃ (y20 : Bool) (W21 : CW), W21.w = w ∧ Le [] W13 W21 ∧ l = [vB y20] ∧ K22 y20 = some r) ?_ ?_
  ·rintro _ _ σ ⟨y20, W21, rfl, l21, rfl, hm⟩
   rw [hK22] at hm
   have a23 := a16.n l21
   refine Cw.cond (b := y20) rfl (fun hc26 => ?_) (fun hc26 => ?_)
   ·replace hm := bt hm hc26
    refine Cw.seq (Cw.region (Lw.m v9 rfl (Lw.m (vI y11) rfl (Lw.t rfl (T.bs 4 [vI y11] (cs := [vI y11]) rfl rfl (bsv rfl)) ?_))))
    rintro _ _ ⟨g27, W27, rfl, rfl, l27, b27⟩
    obtain ⟨q31, e32, hm⟩ := ob hm
    refine Lw.t rfl (T.app1S (α := Int) (K' := []) ((o10.up l21 rfl).up l27 rfl) b27 (rdI _) rfl rfl e32) ?_
    rintro v33 _ ⟨W33, rfl, l33, o33⟩
    refine Lw.g v33 rfl (Lw.nil (Cw.seq (Cw.region (Lw.m (vI y12) rfl (Lw.add rfl (Lw.g (vI (w64 (y12 + 1))) rfl (Lw.nil (Cw.region (Lw.m (vI y11) rfl (Lw.add rfl (Lw.g (vI (w64 (y11 + 1))) rfl (Lw.nil (⟨?_, m15, Nat.lt_succ_self m15, ⟨q31, w64 (y11 + 1), w64 (y12 + 1), v33, W33, rfl, (l13.trans ((l21.sub rfl).trans ((l27.sub rfl).trans l33))), rfl, o33, hm⟩⟩)))))))))))))
    iterate 11 (refine Agree.up rfl ?_)
    iterate 1 (refine Agree.up rfl ?_)
    refine Agree.ov0 rfl ?_
    iterate 4 (refine Agree.up rfl ?_)
    iterate 3 (refine Agree.up rfl ?_)
    exact Agree.base
   ·replace hm := bf hm hc26
    obtain ⟨K39, hK39, hm⟩ := jn_e hm
    refine Cw.join 43 66 [43] (fun l w => ∃ (y37 : Bool) (W38 : CW), W38.w = w ∧ Le [] W21 W38 ∧ l = [vB y37] ∧ K39 y37 = some r) ?_ ?_
    ·rintro _ _ σ ⟨y37, W38, rfl, l38, rfl, hm⟩
     rw [hK39] at hm
     have o42 := (o10.up l21 rfl).up l38 rfl
     refine Cw.cond (b := y37) rfl (fun hc43 => ?_) (fun hc43 => ?_)
     ·replace hm := bt hm hc43
      refine Cw.seq (Cw.region (Lw.m v9 rfl (Lw.t rfl (T.bs 5 [vI (-1)] (cs := [vI (-1)]) rfl rfl (bsv rfl)) ?_)))
      rintro _ _ ⟨g44, W44, rfl, rfl, l44, b44⟩
      obtain ⟨q48, e49, hm⟩ := ob hm
      refine Lw.t rfl (T.app1S (α := Int) (K' := []) (o42.up l44 rfl) b44 (rdI _) rfl rfl e49) ?_
      rintro v50 _ ⟨W50, rfl, l50, o50⟩
      refine Lw.g v50 rfl (Lw.nil (Cw.region (Lw.m (vI y12) rfl (Lw.add rfl (Lw.g (vI (w64 (y12 + 1))) rfl (Lw.nil (⟨?_, m15, Nat.lt_succ_self m15, ⟨q48, y11, w64 (y12 + 1), v50, W50, rfl, (l13.trans ((l21.sub rfl).trans ((l38.sub rfl).trans ((l44.sub rfl).trans l50)))), rfl, o50, hm⟩⟩)))))))
      iterate 7 (refine Agree.up rfl ?_)
      iterate 1 (refine Agree.up rfl ?_)
      refine Agree.ov0 rfl ?_
      iterate 1 (refine Agree.up rfl ?_)
      refine Agree.ov0 rfl ?_
      iterate 4 (refine Agree.up rfl ?_)
      iterate 3 (refine Agree.up rfl ?_)
      exact Agree.base
     ·replace hm := bf hm hc43
      refine Cw.region (Lw.m (vI y11) rfl (Lw.add rfl (Lw.g (vI (w64 (y11 + 1))) rfl (Lw.nil (⟨?_, m15, Nat.lt_succ_self m15, ⟨y8, w64 (y11 + 1), y12, v9, W38, rfl, (l13.trans ((l21.sub rfl).trans (l38.sub rfl))), rfl, o42, hm⟩⟩)))))
      iterate 3 (refine Agree.up rfl ?_)
      iterate 1 (refine Agree.up rfl ?_)
      refine Agree.ov0 rfl ?_
      iterate 1 (refine Agree.up rfl ?_)
      refine Agree.ov0 rfl ?_
      iterate 4 (refine Agree.up rfl ?_)
      iterate 3 (refine Agree.up rfl ?_)
      exact Agree.base
    ·refine Cw.draw [] [(0, 0), (1, 0), (2, 0), (3, 0), (4, 0), (5, 0), (6, 0), (7, 0), (8, 0), (9, 1), (10, 0), (11, 0), (12, 1), (13, 0), (14, 0), (15, 0), (16, 1), (17, 0), (18, 0), (19, 0), (20, 1), (21, 0), (22, 0), (23, 0)] mixed (by kernel_rfl) fun W54 l54 => ?_
     have a55 := a23.n l54
     have o56 := (((f3_0.up l5 rfl).up l13 rfl).up l21 rfl).up l54 rfl
     refine Mw.p rfl rfl (fun _ => R.mv (v := vI y11) rfl) (Mw.p rfl rfl (fun _ => R.mv (v := v1_) rfl) (Mw.p rfl rfl (fun _ => lenR (xs := x1) (h1.ul a55) rfl) (Mw.p rfl rfl (fun _ => R.ge rfl rfl) (Mw.p rfl rfl (fun _ => R.mv (v := vB (decide (((x1.length : Int) : Int) ≤ (y11 : Int)))) rfl) (bsplit (decide (((x1.length : Int) : Int) ≤ (y11 : Int))) (fun hc59 => ?_) (fun hc59 => ?_))))))
     ·replace hm := bt hm hc59
      refine Mw.pass' hc59 rfl rfl rfl rfl rfl rfl (Mw.pass' hc59 rfl rfl rfl rfl rfl rfl (Mw.pass' hc59 rfl rfl rfl rfl rfl rfl (Mw.pass' hc59 rfl rfl rfl rfl rfl rfl (Mw.pass' hc59 rfl rfl rfl rfl rfl rfl (Mw.pass' hc59 rfl rfl rfl rfl rfl rfl (Mw.pass' hc59 rfl rfl rfl rfl rfl rfl (Mw.pass' hc59 rfl rfl rfl rfl rfl rfl (Mw.pass' hc59 rfl rfl rfl rfl rfl rfl (Mw.pass' hc59 rfl rfl rfl rfl rfl rfl (Mw.pass' hc59 rfl rfl rfl rfl rfl rfl (Mw.pass' hc59 rfl rfl rfl rfl rfl rfl (Mw.pass' hc59 rfl rfl rfl rfl rfl rfl (Mw.pass' hc59 rfl rfl rfl rfl rfl rfl (Mw.pass' hc59 rfl rfl rfl rfl rfl rfl (Mw.pass' hc59 rfl rfl rfl rfl rfl rfl (Mw.pass' hc59 rfl rfl rfl rfl rfl rfl (Mw.p rfl rfl (fun _ => R.pk hc59 rfl (v := vB true) rfl) (Mw.p rfl rfl (fun _ => R.as (v := vB true) rfl) (Mw.nil (⟨?_, ⟨true, W54, rfl, l54, rfl, hm⟩⟩))))))))))))))))))))
      iterate 24 (refine Agree.up rfl ?_)
      exact Agree.refl _
     ·replace hm := bf hm hc59
      refine Mw.gp hc59 rfl rfl rfl rfl rfl (fun _ => R.mv (v := v0_3) rfl) (Mw.gp hc59 rfl rfl rfl rfl rfl (fun _ => R.mv (v := vI y12) rfl) (Mw.gp hc59 rfl rfl rfl rfl rfl (fun _ => R.add rfl rfl) ?_))
      obtain ⟨u60, e61, hm⟩ := ob hm
      refine Mw.gp hc59 rfl rfl rfl rfl rfl (fun _ => R.ix (α := List Int) o56.rd e61 rfl rfl rfl) ?_
      obtain ⟨v62, c63, r64⟩ := (o56.rd.at_ e61).cell rfl
      refine Mw.gq hc59 rfl rfl rfl rfl rfl (fun _ c => R.ld rfl rfl (cl_cell (o56.rd.at_ e61).1 rfl c63 c)) (Mw.gp hc59 rfl rfl rfl rfl rfl (fun _ => R.mv (v := vI y11) rfl) ?_)
      obtain ⟨u65, e66, hm⟩ := ob hm
      refine Mw.gp hc59 rfl rfl rfl rfl rfl (fun _ => R.ix (α := Int) r64 e66 rfl rfl rfl) (Mw.gq hc59 rfl rfl rfl rfl rfl (fun _ c => R.ld rfl rfl (cl_cell (r64.at_ e66).1 rfl (r64.at_ e66).int c)) (Mw.gp hc59 rfl rfl rfl rfl rfl (fun _ => R.mv (v := v0_3) rfl) (Mw.gp hc59 rfl rfl rfl rfl rfl (fun _ => R.mv (v := vI y12) rfl) ?_)))
      obtain ⟨u67, e68, hm⟩ := ob hm
      refine Mw.gp hc59 rfl rfl rfl rfl rfl (fun _ => R.ix (α := List Int) o56.rd e68 rfl rfl rfl) ?_
      obtain ⟨v69, c70, r71⟩ := (o56.rd.at_ e68).cell rfl
      refine Mw.gq hc59 rfl rfl rfl rfl rfl (fun _ c => R.ld rfl rfl (cl_cell (o56.rd.at_ e68).1 rfl c70 c)) (Mw.gp hc59 rfl rfl rfl rfl rfl (fun _ => R.mv (v := vI y11) rfl) (Mw.gp hc59 rfl rfl rfl rfl rfl (fun _ => R.add rfl rfl) ?_))
      obtain ⟨u72, e73, hm⟩ := ob hm
      refine Mw.gp hc59 rfl rfl rfl rfl rfl (fun _ => R.ix (α := Int) r71 e73 rfl rfl rfl) (Mw.gq hc59 rfl rfl rfl rfl rfl (fun _ c => R.ld rfl rfl (cl_cell (r71.at_ e73).1 rfl (r71.at_ e73).int c)) (Mw.gp hc59 rfl rfl rfl rfl rfl (fun _ => R.ge rfl rfl) (Mw.p rfl rfl (fun _ => R.pk hc59 rfl (v := vB (decide ((u72 : Int) ≤ (u65 : Int)))) rfl) (Mw.p rfl rfl (fun _ => R.as (v := vB (decide ((u72 : Int) ≤ (u65 : Int)))) rfl) (Mw.nil (⟨?_, ⟨decide ((u72 : Int) ≤ (u65 : Int)), W54, rfl, l54, rfl, hm⟩⟩))))))
      iterate 24 (refine Agree.up rfl ?_)
      exact Agree.refl _
  ·refine Cw.draw [] [(0, 0), (1, 0), (2, 0), (3, 0), (4, 0), (5, 0), (6, 0), (7, 0), (8, 1), (9, 0), (10, 0), (11, 0), (12, 1), (13, 0), (14, 0), (15, 0)] mixed (by kernel_rfl) fun W74 l74 => ?_
   have a75 := a16.n l74
   have s78 := h1.ul a75
   refine Mw.p rfl rfl (fun _ => R.mv (v := vI y11) rfl) (Mw.p rfl rfl (fun _ => R.mv (v := v1_) rfl) (Mw.p rfl rfl (fun _ => lenR (xs := x1) s78 rfl) (Mw.p rfl rfl (fun _ => R.lt rfl rfl) (Mw.p rfl rfl (fun _ => R.mv (v := vB (decide ((y11 : Int) < ((x1.length : Int) : Int)))) rfl) (bsplit (decide ((y11 : Int) < ((x1.length : Int) : Int))) (fun hc79 => ?_) (fun hc79 => ?_))))))
   ·replace hm := bt hm hc79
    refine Mw.gp hc79 rfl rfl rfl rfl rfl (fun _ => R.mv (v := v0_) rfl) (Mw.gp hc79 rfl rfl rfl rfl rfl (fun _ => R.mv (v := vI y12) rfl) ?_)
    obtain ⟨u80, e81, hm⟩ := ob hm
    refine Mw.gp hc79 rfl rfl rfl rfl rfl (fun _ => R.ix (α := Str) (h0.ul a75) e81 rfl rfl rfl) (Mw.gq hc79 rfl rfl rfl rfl rfl (fun _ c => R.ld rfl rfl (cl_cell ((h0.ul a75).at_ e81).1 rfl ((h0.ul a75).at_ e81).str c)) (Mw.gp hc79 rfl rfl rfl rfl rfl (fun _ => R.mv (v := v1_) rfl) (Mw.gp hc79 rfl rfl rfl rfl rfl (fun _ => R.mv (v := vI y11) rfl) ?_)))
    obtain ⟨u83, e84, hm⟩ := ob hm
    refine Mw.gp hc79 rfl rfl rfl rfl rfl (fun _ => R.ix (α := Str) s78 e84 rfl rfl rfl) (Mw.gq hc79 rfl rfl rfl rfl rfl (fun _ c => R.ld rfl rfl (cl_cell (s78.at_ e84).1 rfl (s78.at_ e84).str c)) (Mw.gp hc79 rfl rfl rfl rfl rfl (fun _ => R.seq rfl rfl) (Mw.p rfl rfl (fun _ => R.pk hc79 rfl (v := vB (u80 == u83)) rfl) (Mw.p rfl rfl (fun _ => R.as (v := vB (u80 == u83)) rfl) (Mw.nil (⟨?_, ⟨(u80 == u83), W74, rfl, l74, rfl, hm⟩⟩))))))
    iterate 16 (refine Agree.up rfl ?_)
    exact Agree.refl _
   ·replace hm := bf hm hc79
    refine Mw.pass' hc79 rfl rfl rfl rfl rfl rfl (Mw.pass' hc79 rfl rfl rfl rfl rfl rfl (Mw.pass' hc79 rfl rfl rfl rfl rfl rfl (Mw.pass' hc79 rfl rfl rfl rfl rfl rfl (Mw.pass' hc79 rfl rfl rfl rfl rfl rfl (Mw.pass' hc79 rfl rfl rfl rfl rfl rfl (Mw.pass' hc79 rfl rfl rfl rfl rfl rfl (Mw.pass' hc79 rfl rfl rfl rfl rfl rfl (Mw.pass' hc79 rfl rfl rfl rfl rfl rfl (Mw.p rfl rfl (fun _ => R.pk hc79 rfl (v := vB false) rfl) (Mw.p rfl rfl (fun _ => R.as (v := vB false) rfl) (Mw.nil (⟨?_, ⟨false, W74, rfl, l74, rfl, hm⟩⟩))))))))))))
    iterate 16 (refine Agree.up rfl ?_)
    exact Agree.refl _
 ·replace hm := bf hm hc19
  refine Cw.exit ?_
  rw [hK14] at hm
  refine Cw.seq (Cw.region (Lw.m v9 rfl (Lw.g v9 rfl (Lw.nil ?_))))
  cases hm
  exact Cw.ret (ret1 rfl (Res.mk a16 ⟨v9, rfl, o10.s.sub rfl rfl⟩))

theorem p93 {W : CW} {K : List Nat} {x0 : List Str} {v0_ : Value} {x1 : List Str} {v1_ : Value} {k0 : Nat} {r : (List Int)} (h0 : Rd W K [v0_] x0) (h1 : Rd W K [v1_] x1) (hm : Vm.spec_l1Match x0 x1 = some r) : CallR Try.prog 93 [v0_, v1_].toArray W.w (Res W [] fun W' v => ∃ (u0 : Value), v = u0 ∧ Ow W' k0 [] [u0] r) :=
 (c93 (V := W.view K []) (h0.view _) (h1.view _) hm).ad (fk k0) fun _ _ ⟨u0, e, f0⟩ => ⟨u0, e, f0.back (fk_LL _)⟩

theorem c95 {V : CW} {x0 : List Str} {v0_ : Value} {x1 : List Str} {v1_ : Value} {x2 : List Str} {v2_ : Value} {r : Vm.Part} (h0 : Rd V [0] [v0_] x0) (h1 : Rd V [0] [v1_] x1) (h2 : Rd V [0] [v2_] x2) (hm : Vm.spec_l3Part x0 x1 x2 = some r) : CallR Try.prog 95 [v0_, v1_, v2_].toArray V.w (Res V LL fun Wf v => ∃ (u0_1 : Value) (u0_2 : Value) (u0_3 : Value) (u0_4 : Value), v = .agg [vB r.Clash, u0_1, u0_2, u0_3, u0_4].toArray ∧ OwS Wf [31] [] [u0_1] r.Lines ∧ OwS Wf [32] [] [u0_2] r.Old ∧ OwS Wf [33] [] [u0_3] r.One ∧ OwS Wf [34] [] [u0_4] r.Two) := by
 unfold Vm.spec_l3Part at hm
 obtain ⟨W0, hW0⟩ : ∃ W, W = V := ⟨V, rfl⟩
 subst hW0
 refine CallR.of Try.func95 rfl rfl rfl rfl (Cw.seq (Cw.region (Lw.t rfl (T.alloc 2 (cs := [vB false, .slice none 0 0, .slice none 0 0, .slice none 0 0, .slice none 0 0]) rfl) ?_)))
 rintro _ _ ⟨g1, W1, rfl, rfl, l1, b1⟩
 have a2 := l1.o
 refine Lw.nil (Cw.seq (Cw.block ?_))
 obtain ⟨K5, hK5, hm⟩ := jn_e hm
 refine Cw.join 7 13 [7] (fun l w => ∃ (y3 : Bool) (W4 : CW), W4.w = w ∧ Le [] W1 W4 ∧ l = [vB y3] ∧ K5 y3 = some r) ?_ ?_
 ·rintro _ _ σ ⟨y3, W4, rfl, l4, rfl, hm⟩
  rw [hK5] at hm
  have a6 := a2.n l4
  refine Cw.cond (b := y3) rfl (fun hc8 => ?_) (fun hc8 => ?_)
  ·replace hm := bt hm hc8
   refine Cw.seq (Cw.region (Lw.t rfl (T.lit0 (α := Str) 3 []) ?_))
   rintro v9 _ ⟨W9, rfl, l9, o9⟩
   have a10 := a6.n l9
   refine Lw.m v2_ rfl ?_
   obtain ⟨q12, e13, hm⟩ := ob hm
   refine Lw.t rfl (T.appP (α := Str) o9 (h2.ul a10) rfl rfl e13) ?_
   rintro v14 _ ⟨W14, rfl, l14, o14⟩
   have a16 := a10.t l14 rfl
   refine Lw.r rfl (R.bd (zs := [vB false, .slice none 0 0, .slice none 0 0, .slice none 0 0, .slice none 0 0]) (cs := [vB false, v14, .slice none 0 0, .slice none 0 0, .slice none 0 0]) [(1, v14)] rfl rfl rfl (bp_cons o14.oc rfl bp_nil)) (Lw.u (T.sta (vs := [vB false, v14, .slice none 0 0, .slice none 0 0, .slice none 0 0]) (((b1.up l4 rfl).up l9 rfl).up l14 rfl) rfl rfl (oc_cons rfl (oc_cons o14.oc (oc_cons rfl (oc_cons rfl (oc_cons rfl oc_nil))))) rfl rfl) ?_)
   rintro _ _ ⟨W18, rfl, l18, b18⟩
   have a19 := a16.t l18 rfl
   refine Lw.nil ?_
   obtain ⟨W21, ew21, l21, o21⟩ := (o14.up l18 rfl).dyeO 31
   have a22 := a19.t l21 rfl
   cases hm
   rw [← ew21]
   exact Cw.ret (retA1 rfl (b18.up l21 rfl) (Res.mk a22 ⟨v14, .slice none 0 0, .slice none 0 0, .slice none 0 0, rfl, o21.s, (owsN []).sub rfl rfl, (owsN []).sub rfl rfl, (owsN []).sub rfl rfl⟩))
  ·replace hm := bf hm hc8
   refine Cw.seq (Cw.region (Lw.m v2_ rfl (Lw.m v0_ rfl ?_)))
   obtain ⟨z26, e27, hm⟩ := ob hm
   refine Lw.t rfl (T.call rfl (p89 (K := [0])  (h2.ul a6) (h0.ul a6) e27)) ?_
   rintro _ _ ⟨W28, rfl, l28, rfl⟩
   have a29 := a6.n l28
   have b30 := (b1.up l4 rfl).up l28 rfl
   refine Lw.g (vB z26) rfl (Lw.nil (Cw.cond (b := z26) rfl (fun hc31 => ?_) (fun hc31 => ?_)))
   ·replace hm := bt hm hc31
    refine Cw.seq (Cw.region (Lw.t rfl (T.lit0 (α := Str) 4 []) ?_))
    rintro v32 _ ⟨W32, rfl, l32, o32⟩
    have a33 := a29.n l32
    refine Lw.m v1_ rfl ?_
    obtain ⟨q35, e36, hm⟩ := ob hm
    refine Lw.t rfl (T.appP (α := Str) o32 (h1.ul a33) rfl rfl e36) ?_
    rintro v37 _ ⟨W37, rfl, l37, o37⟩
    have a39 := a33.t l37 rfl
    refine Lw.r rfl (R.bd (zs := [vB false, .slice none 0 0, .slice none 0 0, .slice none 0 0, .slice none 0 0]) (cs := [vB false, v37, .slice none 0 0, .slice none 0 0, .slice none 0 0]) [(1, v37)] rfl rfl rfl (bp_cons o37.oc rfl bp_nil)) (Lw.u (T.sta (vs := [vB false, v37, .slice none 0 0, .slice none 0 0, .slice none 0 0]) ((b30.up l32 rfl).up l37 rfl) rfl rfl (oc_cons rfl (oc_cons o37.oc (oc_cons rfl (oc_cons rfl (oc_cons rfl oc_nil))))) rfl rfl) ?_)
    rintro _ _ ⟨W41, rfl, l41, b41⟩
    have a42 := a39.t l41 rfl
    refine Lw.nil ?_
    obtain ⟨W44, ew44, l44, o44⟩ := (o37.up l41 rfl).dyeO 31
    have a45 := a42.t l44 rfl
    cases hm
    rw [← ew44]
    exact Cw.ret (retA1 rfl (b41.up l44 rfl) (Res.mk a45 ⟨v37, .slice none 0 0, .slice none 0 0, .slice none 0 0, rfl, o44.s, (owsN []).sub rfl rfl, (owsN []).sub rfl rfl, (owsN []).sub rfl rfl⟩))
   ·replace hm := bf hm hc31
    refine Cw.skip (Cw.seq (Cw.region (Lw.t rfl (T.lit0 (α := Str) 5 []) ?_)))
    rintro v47 _ ⟨W47, rfl, l47, o47⟩
    have a48 := a29.n l47
    refine Lw.m v0_ rfl ?_
    obtain ⟨q50, e51, hm⟩ := ob hm
    refine Lw.t rfl (T.appP (α := Str) o47 (h0.ul a48) rfl rfl e51) ?_
    rintro v52 _ ⟨W52, rfl, l52, o52⟩
    have a54 := a48.t l52 rfl
    refine Lw.t rfl (T.lit0 (α := Str) 6 []) ?_
    rintro v56 _ ⟨W56, rfl, l56, o56⟩
    have a57 := a54.n l56
    refine Lw.m v1_ rfl ?_
    obtain ⟨q60, e61, hm⟩ := ob hm
    refine Lw.t rfl (T.appP (α := Str) o56 (h1.ul a57) rfl rfl e61) ?_
    rintro v62 _ ⟨W62, rfl, l62, o62⟩
    have a64 := a57.t l62 rfl
    refine Lw.t rfl (T.lit0 (α := Str) 7 []) ?_
    rintro v67 _ ⟨W67, rfl, l67, o67⟩
    have a68 := a64.n l67
    refine Lw.m v2_ rfl ?_
    obtain ⟨q72, e73, hm⟩ := ob hm
    refine Lw.t rfl (T.appP (α := Str) o67 (h2.ul a68) rfl rfl e73) ?_
    rintro v74 _ ⟨W74, rfl, l74, o74⟩
    have a76 := a68.t l74 rfl
    have o77 := (((o52.up l56 rfl).up l62 rfl).up l67 rfl).up l74 rfl
    have o78 := (o62.up l67 rfl).up l74 rfl
    refine Lw.r rfl (R.bd (zs := [vB false, .slice none 0 0, .slice none 0 0, .slice none 0 0, .slice none 0 0]) (cs := [vB true, .slice none 0 0, v52, v62, v74]) [(0, vB true), (2, v52), (3, v62), (4, v74)] rfl rfl rfl (bp_cons rfl rfl (bp_cons o77.oc rfl (bp_cons o78.oc rfl (bp_cons o74.oc rfl bp_nil))))) (Lw.u (T.sta (vs := [vB true, .slice none 0 0, v52, v62, v74]) ((((((b30.up l47 rfl).up l52 rfl).up l56 rfl).up l62 rfl).up l67 rfl).up l74 rfl) rfl rfl (oc_cons rfl (oc_cons rfl (oc_cons o77.oc (oc_cons o78.oc (oc_cons o74.oc oc_nil))))) rfl rfl) ?_)
    rintro _ _ ⟨W80, rfl, l80, b80⟩
    have a81 := a76.t l80 rfl
    refine Lw.nil ?_
    obtain ⟨W85, ew85, l85, o85⟩ := (o77.up l80 rfl).dyeO 32
    have a86 := a81.t l85 rfl
    obtain ⟨W90, ew90, l90, o90⟩ := ((o78.up l80 rfl).up l85 rfl).dyeO 33
    have a91 := a86.t l90 rfl
    obtain ⟨W95, ew95, l95, o95⟩ := (((o74.up l80 rfl).up l85 rfl).up l90 rfl).dyeO 34
    have a96 := a91.t l95 rfl
    cases hm
    rw [← ew95.trans (ew90.trans (ew85))]
    exact Cw.ret (retA1 rfl (((b80.up l85 rfl).up l90 rfl).up l95 rfl) (Res.mk a96 ⟨.slice none 0 0, v52, v62, v74, rfl, (owsN []).sub rfl rfl, ((o85.up l90 rfl).up l95 rfl).s, (o90.up l95 rfl).s, o95.s⟩))
 ·refine Cw.seq (Cw.region (Lw.m v1_ rfl (Lw.m v0_ rfl ?_)))
  obtain ⟨z102, e103, hm⟩ := ob hm
  refine Lw.t rfl (T.call rfl (p89 (K := [0])  (h1.ul a2) (h0.ul a2) e103)) ?_
  rintro _ _ ⟨W104, rfl, l104, rfl⟩
  have a105 := a2.n l104
  refine Lw.g (vB z102) rfl (Lw.nil (Cw.cond (b := z102) rfl (fun hc107 => ?_) (fun hc107 => ?_)))
  ·replace hm := bt hm hc107
   refine Cw.skip (⟨?_, ⟨z102, W104, rfl, l104, rfl, hm⟩⟩)
   iterate 4 (refine Agree.up rfl ?_)
   exact Agree.refl _
  ·replace hm := bf hm hc107
   refine Cw.region (Lw.m v1_ rfl (Lw.m v2_ rfl ?_))
   obtain ⟨z110, e111, hm⟩ := ob hm
   refine Lw.t rfl (T.call rfl (p89 (K := [0])  (h1.ul a105) (h2.ul a105) e111)) ?_
   rintro _ _ ⟨W112, rfl, l112, rfl⟩
   refine Lw.g (vB z110) rfl (Lw.nil (⟨?_, ⟨z110, W112, rfl, (l104.trans l112), rfl, hm⟩⟩))
   iterate 8 (refine Agree.up rfl ?_)
   exact Agree.refl _

theorem p95 {W : CW} {K : List Nat} {x0 : List Str} {v0_ : Value} {x1 : List Str} {v1_ : Value} {x2 : List Str} {v2_ : Value} {k0 : Nat} {k1 : Nat} {k2 : Nat} {k3 : Nat} {r : Vm.Part} (h0 : Rd W K [v0_] x0) (h1 : Rd W K [v1_] x1) (h2 : Rd W K [v2_] x2) (hm : Vm.spec_l3Part x0 x1 x2 = some r) : CallR Try.prog 95 [v0_, v1_, v2_].toArray W.w (Res W [] fun W' v => ∃ (u0_1 : Value) (u0_2 : Value) (u0_3 : Value) (u0_4 : Value), v = .agg [vB r.Clash, u0_1, u0_2, u0_3, u0_4].toArray ∧ Ow W' k0 [] [u0_1] r.Lines ∧ Ow W' k1 [] [u0_2] r.Old ∧ Ow W' k2 [] [u0_3] r.One ∧ Ow W' k3 [] [u0_4] r.Two) :=
 CallR.adJ (J := []) (fun c => bif Nat.beq c 0 then 0 else bif Nat.beq c 31 then k0 else bif Nat.beq c 32 then k1 else bif Nat.beq c 33 then k2 else bif Nat.beq c 34 then k3 else 0) (c95 (V := W.view K []) (h0.view _) (h1.view _) (h2.view _) hm) fun _ _ ⟨u0_1, u0_2, u0_3, u0_4, e, f0, f1, f2, f3⟩ => ⟨u0_1, u0_2, u0_3, u0_4, e, f0.one1.backN rfl, f1.one1.backN rfl, f2.one1.backN rfl, f3.one1.backN rfl⟩

theorem c94 {V : CW} {x0 : List Vm.Part} {v0_ : Value} {x1 : Vm.Part} {v1_1_ : Value} {v1_2_ : Value} {v1_3_ : Value} {v1_4_ : Value} {r : (List Vm.Part)} (h0 : Ow V 2 [] [v0_] x0) (h1_1 : Ow V 3 [] [v1_1_] x1.Lines) (h1_2 : Ow V 4 [] [v1_2_] x1.Old) (h1_3 : Ow V 5 [] [v1_3_] x1.One) (h1_4 : Ow V 6 [] [v1_4_] x1.Two) (hm : Vm.spec_l3Put x0 x1 = some r) : CallR Try.prog 94 [v0_, .agg [vB x1.Clash, v1_1_, v1_2_, v1_3_, v1_4_].toArray].toArray V.w (Res V LL fun Wf v => ∃ (u0 : Value), v = u0 ∧ OwS Wf [31] [] [u0] r) := by
 unfold Vm.spec_l3Put at hm
 obtain ⟨W0, hW0⟩ : ∃ W, W = V := ⟨V, rfl⟩
 subst hW0
 refine CallR.of Try.func94 rfl rfl rfl rfl (Cw.seq (Cw.region (Lw.t rfl (T.box 7 (v := .agg [vB x1.Clash, v1_1_, v1_2_, v1_3_, v1_4_].toArray) (cs := [vB x1.Clash, v1_1_, v1_2_, v1_3_, v1_4_]) rfl rfl) ?_)))
 rintro _ _ ⟨g1, W1, rfl, rfl, l1, b1⟩
 have a2 := l1.o
 refine Lw.g (.slice none 0 0) rfl (Lw.nil (Cw.seq (Cw.region (Lw.m v0_ rfl (Lw.ln x0 (h0.up l1 rfl).rd rfl (Lw.g (vI (x0.length : Int)) rfl (Lw.nil (Cw.seq ?_))))))))
 obtain ⟨K10, hK10, hm⟩ := jn_e hm
 refine Cw.join 8 16 [16] (fun l w => ∃ (y8 : Bool) (W9 : CW), W9.w = w ∧ Le [] W1 W9 ∧ l = [vB y8] ∧ K10 y8 = some r) ?_ ?_
 ·rintro _ _ σ ⟨y8, W9, rfl, l9, rfl, hm⟩
  rw [hK10] at hm
  have a11 := a2.n l9
  have o12 := (h0.up l1 rfl).up l9 rfl
  refine Cw.cond (b := y8) rfl (fun hc18 => ?_) (fun hc18 => ?_)
  ·replace hm := bt hm hc18
   refine Cw.seq (Cw.region (Lw.m v0_ rfl (Lw.g v0_ rfl (Lw.nil ?_))))
   obtain ⟨W19, ew19, l19, o19⟩ := o12.dyeO 31
   have a20 := a11.t l19 rfl
   cases hm
   rw [← ew19]
   exact Cw.ret (ret1 rfl (Res.mk a20 ⟨v0_, rfl, o19.s⟩))
  ·replace hm := bf hm hc18
   refine Cw.skip (Cw.seq ?_)
   obtain ⟨K28, hK28, hm⟩ := jn_e hm
   refine Cw.join 18 33 [33] (fun l w => ∃ (y26 : Bool) (W27 : CW), W27.w = w ∧ Le [] W9 W27 ∧ l = [vB y26] ∧ K28 y26 = some r) ?_ ?_
   ·rintro _ _ σ ⟨y26, W27, rfl, l27, rfl, hm⟩
    rw [hK28] at hm
    have a29 := a11.n l27
    have o31 := ((h1_1.up l1 rfl).up l9 rfl).up l27 rfl
    have b35 := (b1.up l9 rfl).up l27 rfl
    refine Cw.cond (b := y26) rfl (fun hc36 => ?_) (fun hc36 => ?_)
    ·replace hm := bt hm hc36
     refine Cw.seq (Cw.draw [] [(0, 0), (1, 0), (2, 0), (3, 0), (4, 0), (5, 0), (6, 0), (7, 0), (8, 1), (9, 0), (10, 1), (11, 3), (12, 0), (13, 0), (14, 3)] mixed (by kernel_rfl) fun W37 l37 => ?_)
     have a38 := a29.n l37
     have o39 := (o12.up l27 rfl).up l37 rfl
     refine Mw.p rfl rfl (fun _ => R.mv (v := v0_) rfl) (Mw.p rfl rfl (fun _ => R.mv (v := vI (x0.length : Int)) rfl) (Mw.p rfl rfl (fun _ => R.sub rfl rfl) (Mw.p rfl rfl (fun _ => R.mv (v := v0_) rfl) (Mw.p rfl rfl (fun _ => R.mv (v := vI (x0.length : Int)) rfl) (Mw.p rfl rfl (fun _ => R.sub rfl rfl) ?_)))))
     obtain ⟨u45, e46, hm⟩ := ob hm
     refine Mw.p rfl rfl (fun _ => R.ix (α := Part) o39.rd e46 rfl rfl rfl) (Mw.p rfl rfl (fun _ => R.fa rfl) ?_)
     obtain ⟨v47, c48, r49⟩ := (Part.at1 (o39.rd.at_ e46)).cell rfl
     refine Mw.q rfl rfl (fun _ c => R.ld rfl rfl (cl_cell (Part.at1 (o39.rd.at_ e46)).1 rfl c48 c)) (Mw.p rfl rfl (fun _ => R.fa rfl) (Mw.q rfl rfl (fun _ c => R.ld (v := v1_1_) rfl rfl ((b35.up l37 rfl).clc rfl rfl c)) ?_))
     obtain ⟨W50, ew50, l50, o50, oh50⟩ := Ow.take (α := Part) (β := List Str) (j := 8) (jf := 1) o39 e46 c48 rfl
     rw [← ew50]
     have a51 := a38.t l50 rfl
     obtain ⟨q57, e58, hm⟩ := ob hm
     refine Mw.l rfl rfl (T.appP (α := Str) o50 ((o31.up l37 rfl).up l50 rfl).rd rfl rfl e58) ?_
     rintro v59 _ ⟨W59, rfl, l59, o59⟩
     have a60 := a51.t l59 rfl
     obtain ⟨u66, e67, hm⟩ := ob hm
     refine Mw.p rfl rfl (fun _ => R.ix (α := Part) o39.rd e67 rfl rfl rfl) (Mw.p rfl rfl (fun _ => R.fa rfl) ?_)
     obtain ⟨q69, e70, hm⟩ := ob hm
     refine Mw.lu rfl (T.stH (α := Part) (β := List Str) (J := [8]) (oh50.up (l59.sub (M := [8]) rfl) rfl) o59.s e70 rfl rfl rfl rfl) ?_
     rintro _ _ ⟨W68, rfl, l68, o68⟩
     have a71 := a60.t l68 rfl
     refine Mw.nil (Cw.seq (Cw.region (Lw.m v0_ rfl (Lw.g v0_ rfl (Lw.nil ?_)))))
     obtain ⟨W77, ew77, l77, o77⟩ := o68.dyeO 31
     have a78 := a71.t l77 rfl
     cases hm
     rw [← ew77]
     exact Cw.ret (ret1 rfl (Res.mk a78 ⟨v0_, rfl, o77.s⟩))
    ·replace hm := bf hm hc36
     refine Cw.skip (Cw.seq (Cw.region (Lw.m v0_ rfl (Lw.r rfl (R.lda (cs := [vB x1.Clash, v1_1_, v1_2_, v1_3_, v1_4_]) b35.cells rfl rfl) (Lw.t rfl (T.bs 9 [.agg [vB x1.Clash, v1_1_, v1_2_, v1_3_, v1_4_].toArray] (cs := [vB x1.Clash, v1_1_, v1_2_, v1_3_, v1_4_]) rfl rfl (bsA rfl)) ?_)))))
     rintro _ _ ⟨g84, W84, rfl, rfl, l84, b84⟩
     have a85 := a29.n l84
     obtain ⟨q92, e93, hm⟩ := ob hm
     refine Lw.t rfl (T.app1 (α := Part) (J := [3, 4, 5, 6]) (K' := []) ((o12.up l27 rfl).up l84 rfl) b84 (Part.own x1.Clash x1.Lines x1.Old x1.One x1.Two (o31.up l84 rfl).s ((((h1_2.up l1 rfl).up l9 rfl).up l27 rfl).up l84 rfl).s ((((h1_3.up l1 rfl).up l9 rfl).up l27 rfl).up l84 rfl).s ((((h1_4.up l1 rfl).up l9 rfl).up l27 rfl).up l84 rfl).s) rfl rfl e93) ?_
     rintro v94 _ ⟨W94, rfl, l94, o94⟩
     have a95 := a85.t l94 rfl
     refine Lw.g v94 rfl (Lw.nil ?_)
     obtain ⟨W98, ew98, l98, o98⟩ := o94.dyeO 31
     have a99 := a95.t l98 rfl
     cases hm
     rw [← ew98]
     exact Cw.ret (ret1 rfl (Res.mk a99 ⟨v94, rfl, o98.s⟩))
   ·refine Cw.region (Lw.m (vI (x0.length : Int)) rfl (Lw.gt rfl (Lw.m (vB (decide ((0 : Int) < ((x0.length : Int) : Int)))) rfl (bsplit (decide ((0 : Int) < ((x0.length : Int) : Int))) (fun hc102 => ?_) (fun hc102 => ?_)))))
    ·replace hm := bt hm hc102
     refine Lw.want' hc102 rfl rfl rfl rfl (Lw.fa rfl (Lw.want' hc102 rfl rfl rfl rfl (Lw.r rfl (R.ld (v := vB x1.Clash) rfl rfl ((b1.up l9 rfl).cell rfl)) (Lw.want' hc102 rfl rfl rfl rfl (Lw.r rfl (R.not rfl) (Lw.p hc102 (vB (!x1.Clash)) rfl (Lw.m (vB (!x1.Clash)) rfl (bsplit (!x1.Clash) (fun hc103 => ?_) (fun hc103 => ?_)))))))))
     ·replace hm := bt hm hc103
      refine Lw.want' hc103 rfl rfl rfl rfl (Lw.m v0_ rfl (Lw.want' hc103 rfl rfl rfl rfl (Lw.m (vI (x0.length : Int)) rfl (Lw.want' hc103 rfl rfl rfl rfl (Lw.sub rfl (Lw.want' hc103 rfl rfl rfl rfl ?_))))))
      obtain ⟨u104, e105, hm⟩ := ob hm
      refine Lw.r rfl (R.ix (α := Part) o12.rd e105 rfl rfl rfl) (Lw.want' hc103 rfl rfl rfl rfl (Lw.fa rfl (Lw.want' hc103 rfl rfl rfl rfl (Lw.r rfl (R.ld rfl rfl (Part.at0 (o12.rd.at_ e105)).bool) (Lw.want' hc103 rfl rfl rfl rfl (Lw.r rfl (R.not rfl) (Lw.p hc103 (vB (!u104.Clash)) rfl (Lw.nil (⟨?_, ⟨(!u104.Clash), W9, rfl, Le.refl _ _, rfl, hm⟩⟩)))))))))
      iterate 16 (refine Agree.up rfl ?_)
      exact Agree.refl _
     ·replace hm := bf hm hc103
      refine Lw.pass' hc103 rfl rfl rfl rfl rfl rfl rfl (Lw.pass' hc103 rfl rfl rfl rfl rfl rfl rfl (Lw.pass' hc103 rfl rfl rfl rfl rfl rfl rfl (Lw.pass' hc103 rfl rfl rfl rfl rfl rfl rfl (Lw.pass' hc103 rfl rfl rfl rfl rfl rfl rfl (Lw.pass' hc103 rfl rfl rfl rfl rfl rfl rfl (Lw.pass' hc103 rfl rfl rfl rfl rfl rfl rfl (Lw.p hc103 (vB false) rfl (Lw.nil (⟨?_, ⟨false, W9, rfl, Le.refl _ _, rfl, hm⟩⟩)))))))))
      iterate 16 (refine Agree.up rfl ?_)
      exact Agree.refl _
    ·replace hm := bf hm hc102
     refine Lw.pass' hc102 rfl rfl rfl rfl rfl rfl rfl (Lw.pass' hc102 rfl rfl rfl rfl rfl rfl rfl (Lw.pass' hc102 rfl rfl rfl rfl rfl rfl rfl (Lw.p hc102 (vB false) rfl (Lw.m (vB false) rfl (Lw.pass' rfl rfl rfl rfl rfl rfl rfl rfl (Lw.pass' rfl rfl rfl rfl rfl rfl rfl rfl (Lw.pass' rfl rfl rfl rfl rfl rfl rfl rfl (Lw.pass' rfl rfl rfl rfl rfl rfl rfl rfl (Lw.pass' rfl rfl rfl rfl rfl rfl rfl rfl (Lw.pass' rfl rfl rfl rfl rfl rfl rfl rfl (Lw.pass' rfl rfl rfl rfl rfl rfl rfl rfl (Lw.p rfl (vB false) rfl (Lw.nil (⟨?_, ⟨false, W9, rfl, Le.refl _ _, rfl, hm⟩⟩))))))))))))))
     iterate 16 (refine Agree.up rfl ?_)
     exact Agree.refl _
 ·refine Cw.region (Lw.fa rfl (Lw.r rfl (R.ld (v := vB x1.Clash) rfl rfl (b1.cell rfl)) (Lw.r rfl (R.not rfl) (Lw.m (vB (!x1.Clash)) rfl (bsplit (!x1.Clash) (fun hc106 => ?_) (fun hc106 => ?_))))))
  ·replace hm := bt hm hc106
   refine Lw.want' hc106 rfl rfl rfl rfl (Lw.fa rfl (Lw.want' hc106 rfl rfl rfl rfl (Lw.r rfl (R.ld (v := v1_1_) rfl rfl (b1.cell rfl)) (Lw.want' hc106 rfl rfl rfl rfl (Lw.ln x1.Lines (h1_1.up l1 rfl).rd rfl (Lw.want' hc106 rfl rfl rfl rfl (Lw.eq rfl (Lw.p hc106 (vB (((x1.Lines.length : Int) : Int) == (0 : Int))) rfl (Lw.nil (⟨?_, ⟨(((x1.Lines.length : Int) : Int) == (0 : Int)), W1, rfl, Le.refl _ _, rfl, hm⟩⟩))))))))))
   iterate 9 (refine Agree.up rfl ?_)
   exact Agree.refl _
  ·replace hm := bf hm hc106
   refine Lw.pass' hc106 rfl rfl rfl rfl rfl rfl rfl (Lw.pass' hc106 rfl rfl rfl rfl rfl rfl rfl (Lw.pass' hc106 rfl rfl rfl rfl rfl rfl rfl (Lw.pass' hc106 rfl rfl rfl rfl rfl rfl rfl (Lw.p hc106 (vB false) rfl (Lw.nil (⟨?_, ⟨false, W1, rfl, Le.refl _ _, rfl, hm⟩⟩))))))
   iterate 9 (refine Agree.up rfl ?_)
   exact Agree.refl _

theorem p94 {W : CW} {K : List Nat} {x0 : List Vm.Part} {v0_ : Value} {x1 : Vm.Part} {v1_1_ : Value} {v1_2_ : Value} {v1_3_ : Value} {v1_4_ : Value} {k0 : Nat} {c0 : Nat} {c1 : Nat} {c2 : Nat} {c3 : Nat} {c4 : Nat} {r : (List Vm.Part)} (h0 : Ow W c0 [] [v0_] x0) (h1_1 : Ow W c1 [] [v1_1_] x1.Lines) (h1_2 : Ow W c2 [] [v1_2_] x1.Old) (h1_3 : Ow W c3 [] [v1_3_] x1.One) (h1_4 : Ow W c4 [] [v1_4_] x1.Two) (hJ : okJ K [c0, c1, c2, c3, c4] = true) (hm : Vm.spec_l3Put x0 x1 = some r) : CallR Try.prog 94 [v0_, .agg [vB x1.Clash, v1_1_, v1_2_, v1_3_, v1_4_].toArray].toArray W.w (Res W [c0, c1, c2, c3, c4] fun W' v => ∃ (u0 : Value), v = u0 ∧ Ow W' k0 [] [u0] r) :=
 CallR.adJ (J := [c0, c1, c2, c3, c4]) (fun c => bif Nat.beq c 0 then 0 else bif Nat.beq c 2 then c0 else bif Nat.beq c 3 then c1 else bif Nat.beq c 4 then c2 else bif Nat.beq c 5 then c3 else bif Nat.beq c 6 then c4 else bif Nat.beq c 31 then k0 else 0) (c94 (V := W.view K [c0, c1, c2, c3, c4]) (h0.viewJ 0 hJ) (h1_1.viewJ 1 hJ) (h1_2.viewJ 2 hJ) (h1_3.viewJ 3 hJ) (h1_4.viewJ 4 hJ) hm) fun _ _ ⟨u0, e, f0⟩ => ⟨u0, e, f0.one1.backN rfl⟩

theorem c67 {V : CW} {x0 : List Str} {v0_ : Value} {x1 : List Str} {v1_ : Value} {x2 : List Str} {v2_ : Value} {r : (List Vm.Part)} (h0 : Rd V [0] [v0_] x0) (h1 : Rd V [0] [v1_] x1) (h2 : Rd V [0] [v2_] x2) (hm : Vm.spec_l3Of x0 x1 x2 = some r) : CallR Try.prog 67 [v0_, v1_, v2_].toArray V.w (Res V LL fun Wf v => ∃ (u0 : Value), v = u0 ∧ OwS Wf LL [] [u0] r) := by
 unfold Vm.spec_l3Of at hm
 obtain ⟨W0, hW0⟩ : ∃ W, W = V := ⟨V, rfl⟩
 subst hW0
 refine CallR.of Try.func67 rfl rfl rfl rfl (Cw.seq (Cw.region (Lw.g (.slice none 0 0) rfl (Lw.nil (Cw.seq (Cw.region (Lw.t rfl (T.lit0 (α := Part) 2 []) ?_)))))))
 rintro v1 _ ⟨W1, rfl, l1, o1⟩
 have a2 := l1.o
 refine Lw.g v1 rfl (Lw.nil (Cw.seq (Cw.region (Lw.m v0_ rfl (Lw.m v1_ rfl ?_)))))
 obtain ⟨z5, e6, hm⟩ := ob hm
 refine Lw.t rfl (T.call rfl (p93 (K := [0]) (k0 := 3) (h0.ul a2) (h1.ul a2) e6)) ?_
 rintro v0_7 _ ⟨W7, rfl, l7, ⟨_, rfl, f7_0⟩⟩
 have a8 := a2.n l7
 refine Lw.m v1_ rfl (Lw.ln x1 (h1.ul a8) rfl (Lw.t rfl (T.bs 4 [vI (x1.length : Int)] (cs := [vI (x1.length : Int)]) rfl rfl (bsv rfl)) ?_))
 rintro _ _ ⟨g11, W11, rfl, rfl, l11, b11⟩
 have a12 := a8.n l11
 obtain ⟨q15, e16, hm⟩ := ob hm
 refine Lw.t rfl (T.app1S (α := Int) (K' := []) (f7_0.up l11 rfl) b11 (rdI _) rfl rfl e16) ?_
 rintro v17 _ ⟨W17, rfl, l17, o17⟩
 have a18 := a12.t l17 rfl
 refine Lw.g v17 rfl (Lw.nil (Cw.seq (Cw.region (Lw.m v0_ rfl (Lw.m v2_ rfl ?_)))))
 obtain ⟨z23, e24, hm⟩ := ob hm
 refine Lw.t rfl (T.call rfl (p93 (K := [0]) (k0 := 5) (h0.ul a18) (h2.ul a18) e24)) ?_
 rintro v0_25 _ ⟨W25, rfl, l25, ⟨_, rfl, f25_0⟩⟩
 have a26 := a18.n l25
 refine Lw.m v2_ rfl (Lw.ln x2 (h2.ul a26) rfl (Lw.t rfl (T.bs 6 [vI (x2.length : Int)] (cs := [vI (x2.length : Int)]) rfl rfl (bsv rfl)) ?_))
 rintro _ _ ⟨g31, W31, rfl, rfl, l31, b31⟩
 have a32 := a26.n l31
 obtain ⟨q37, e38, hm⟩ := ob hm
 refine Lw.t rfl (T.app1S (α := Int) (K' := []) (f25_0.up l31 rfl) b31 (rdI _) rfl rfl e38) ?_
 rintro v39 _ ⟨W39, rfl, l39, o39⟩
 have a40 := a32.t l39 rfl
 refine Lw.g v39 rfl (Lw.nil (Cw.seq (Cw.region (Lw.g (vI 0) rfl (Lw.nil (Cw.seq (Cw.region (Lw.g (vI 0) rfl (Lw.nil (Cw.seq (Cw.region (Lw.g (vI 0) rfl (Lw.nil (Cw.seq (Cw.seq (Cw.region (Lw.g (vI 0) rfl (Lw.nil (Cw.block ?_)))))))))))))))))))
 obtain ⟨K53, hK53, hm⟩ := jn_e hm
 refine Cw.loop 29 91 [7, 10, 11, 12, 13] (fun m l w => ∃ (y45 : List Vm.Part) (y48 : Int) (y49 : Int) (y50 : Int) (y51 : Int) (v46 : Value) (W52 : CW), W52.w = w ∧ Le [2, 7, 8, 9, 10, 11, 12, 13, 14, 15, 16] W39 W52 ∧ l = [v46, vI y48, vI y49, vI y50, vI y51] ∧ Ow W52 2 [] [v46] y45 ∧ Vm.spec_l3Of_l1 x0 x1 x2 q15 q37 K53 m y45 y48 y49 y50 y51 = some r) (((q15.length : Int) - 0).toNat + 1) ⟨([] : List Part), 0, 0, 0, 0, v1, W39, rfl, Le.refl _ _, rfl, ((((((o1.up l7 rfl).up l11 rfl).up l17 rfl).up l25 rfl).up l31 rfl).up l39 rfl), hm⟩ ?_
 rintro m54 _ _ σ ⟨y45, y48, y49, y50, y51, v46, W52, rfl, l52, rfl, o47, hm⟩
 obtain _ | m54 := m54
 ·cases hm
 unfold Vm.spec_l3Of_l1 at hm
 have a55 := a40.t l52 rfl
 have o56 := (((o17.up l25 rfl).up l31 rfl).up l39 rfl).up l52 rfl
 have o57 := o39.up l52 rfl
 refine Cw.seq (Cw.seq (Cw.region (Lw.m (vI y51) rfl (Lw.m v17 rfl (Lw.ln q15 o56.rd rfl (Lw.lt rfl (Lw.nil (Cw.cond (b := decide ((y51 : Int) < ((q15.length : Int) : Int))) rfl (fun hc60 => ?_) (fun hc60 => ?_)))))))))
 ·replace hm := bt hm hc60
  refine Cw.skip ?_
  obtain ⟨K68, hK68, hm⟩ := jn_e hm
  refine Cw.join 35 91 [7, 10, 11, 12] (fun l w => ∃ (y61 : List Vm.Part) (y64 : Int) (y65 : Int) (y66 : Int) (v62 : Value) (W67 : CW), W67.w = w ∧ Le [2, 7, 8, 9, 10, 11, 12, 13, 14, 15, 16] W52 W67 ∧ l = [v62, vI y64, vI y65, vI y66] ∧ Ow W67 2 [] [v62] y61 ∧ K68 y61 y64 y65 y66 = some r) ?_ ?_
  ·rintro _ _ σ ⟨y61, y64, y65, y66, v62, W67, rfl, l67, rfl, o63, hm⟩
   rw [hK68] at hm
   refine Cw.region (Lw.m (vI y51) rfl (Lw.add rfl (Lw.g (vI (w64 (y51 + 1))) rfl (Lw.nil (⟨?_, m54, Nat.lt_succ_self m54, ⟨y61, y64, y65, y66, w64 (y51 + 1), v62, W67, rfl, (l52.trans l67), rfl, o63, hm⟩⟩)))))
   iterate 3 (refine Agree.up rfl ?_)
   iterate 4 (refine Agree.up rfl ?_)
   refine Agree.ov0 rfl ?_
   iterate 4 (refine Agree.up rfl ?_)
   iterate 5 (refine Agree.up rfl ?_)
   exact Agree.base
  ·refine Cw.block (Cw.seq ?_)
   obtain ⟨K76, hK76, hm⟩ := jn_e hm
   refine Cw.join 35 46 [46] (fun l w => ∃ (y74 : Bool) (W75 : CW), W75.w = w ∧ Le [] W52 W75 ∧ l = [vB y74] ∧ K76 y74 = some r) ?_ ?_
   ·rintro _ _ σ ⟨y74, W75, rfl, l75, rfl, hm⟩
    rw [hK76] at hm
    have a77 := a55.n l75
    refine Cw.cond (b := y74) rfl (fun hc83 => ?_) (fun hc83 => ?_)
    ·replace hm := bt hm hc83
     refine Cw.exit (⟨?_, ⟨y45, y48, y49, y50, v46, W75, rfl, (l75.sub rfl), rfl, (o47.up l75 rfl), hm⟩⟩)
     iterate 1 (refine Agree.up rfl ?_)
     refine Agree.ov0 rfl ?_
     exact Agree.refl _
    ·replace hm := bf hm hc83
     refine Cw.skip (Cw.seq (Cw.draw [2, 7, 8, 9, 10] [(0, 0), (1, 0), (2, 0), (3, 0), (4, 0), (5, 0), (6, 0), (7, 0), (8, 0), (9, 0), (10, 1), (11, 0), (12, 0), (13, 0), (14, 0), (15, 0), (16, 0), (17, 1), (18, 0), (19, 2), (20, 2), (21, 0)] mixed (by kernel_rfl) fun W84 l84 => ?_))
     have a85 := a77.n l84
     have o87 := (o56.up l75 rfl).up l84 rfl
     have o88 := (o57.up l75 rfl).up l84 rfl
     refine Mw.p rfl rfl (fun _ => R.mv (v := v46) rfl) (Mw.p rfl rfl (fun _ => R.mv (v := v0_) rfl) (Mw.p rfl rfl (fun _ => R.mv (v := vI y48) rfl) (Mw.p rfl rfl (fun _ => R.mv (v := vI y51) rfl) ?_)))
     obtain ⟨q91, e92, hm⟩ := ob hm
     have r95 := (h0.ul a85).cutV e92
     refine Mw.p rfl rfl (fun _ => R.sl (h0.ul a85) e92 rfl (.inr rfl) (.inr rfl)) (Mw.p rfl rfl (fun _ => R.mv (v := v1_) rfl) (Mw.p rfl rfl (fun _ => R.mv (v := vI y49) rfl) (Mw.p rfl rfl (fun _ => R.mv (v := v17) rfl) (Mw.p rfl rfl (fun _ => R.mv (v := vI y51) rfl) ?_))))
     obtain ⟨u96, e97, hm⟩ := ob hm
     refine Mw.p rfl rfl (fun _ => R.ix (α := Int) o87.rd e97 rfl rfl rfl) (Mw.q rfl rfl (fun _ c => R.ld rfl rfl (cl_cell (o87.rd.at_ e97).1 rfl (o87.rd.at_ e97).int c)) ?_)
     obtain ⟨q98, e99, hm⟩ := ob hm
     have r102 := (h1.ul a85).cutV e99
     refine Mw.p rfl rfl (fun _ => R.sl (h1.ul a85) e99 rfl (.inr rfl) (.inr rfl)) (Mw.p rfl rfl (fun _ => R.mv (v := v2_) rfl) (Mw.p rfl rfl (fun _ => R.mv (v := vI y50) rfl) (Mw.p rfl rfl (fun _ => R.mv (v := v39) rfl) (Mw.p rfl rfl (fun _ => R.mv (v := vI y51) rfl) ?_))))
     obtain ⟨u103, e104, hm⟩ := ob hm
     refine Mw.p rfl rfl (fun _ => R.ix (α := Int) o88.rd e104 rfl rfl rfl) (Mw.q rfl rfl (fun _ c => R.ld rfl rfl (cl_cell (o88.rd.at_ e104).1 rfl (o88.rd.at_ e104).int c)) ?_)
     obtain ⟨q105, e106, hm⟩ := ob hm
     have r109 := (h2.ul a85).cutV e106
     refine Mw.p rfl rfl (fun _ => R.sl (h2.ul a85) e106 rfl (.inr rfl) (.inr rfl)) ?_
     obtain ⟨z110, e111, hm⟩ := ob hm
     refine Mw.t rfl rfl (T.call rfl (p95 (K := [0]) (k0 := 7) (k1 := 8) (k2 := 9) (k3 := 10) r95 r102 r109 e111)) ?_
     rintro _ _ ⟨W112, rfl, l112, ⟨v0_1_112, v0_2_112, v0_3_112, v0_4_112, rfl, f112_0, f112_1, f112_2, f112_3⟩⟩
     have a113 := a85.n l112
     refine ⟨⟨_, rfl, (l112.sub (M := [2, 7, 8, 9, 10]) rfl)⟩, ?_⟩
     obtain ⟨z119, e120, hm⟩ := ob hm
     refine Mw.t rfl rfl (T.call rfl (p94 (K := [0]) (k0 := 11) (c0 := 2) (c1 := 7) (c2 := 8) (c3 := 9) (c4 := 10) (x1 := (Vm.Part.mk z110.Clash z110.Lines z110.Old z110.One z110.Two)) (((o47.up l75 rfl).up l84 rfl).up l112 rfl) f112_0 f112_1 f112_2 f112_3 rfl e120)) ?_
     rintro v0_121 _ ⟨W121, rfl, l121, ⟨_, rfl, f121_0⟩⟩
     have a122 := a113.t l121 rfl
     refine ⟨⟨_, rfl, ((l112.sub (M := [2, 7, 8, 9, 10]) rfl).trans (l121.sub (M := [2, 7, 8, 9, 10]) rfl))⟩, ?_⟩
     refine Mw.p rfl rfl (fun _ => R.as (v := v0_121) rfl) (Mw.nil ?_)
     obtain ⟨K131, hK131, hm⟩ := jn_e hm
     refine Cw.join 68 79 [7] (fun l w => ∃ (y127 : List Vm.Part) (v128 : Value) (W130 : CW), W130.w = w ∧ Le [11, 12, 13, 14, 15, 16] W121 W130 ∧ l = [v128] ∧ Ow W130 11 [] [v128] y127 ∧ K131 y127 = some r) ?_ ?_
     ·rintro _ _ σ ⟨y127, v128, W130, rfl, l130, rfl, o129, hm⟩
      rw [hK131] at hm
      have o133 := ((o87.up l112 rfl).up l121 rfl).up l130 rfl
      have o134 := ((o88.up l112 rfl).up l121 rfl).up l130 rfl
      refine Cw.seq (Cw.region (Lw.m (vI y51) rfl (Lw.add rfl (Lw.g (vI (w64 (y51 + 1))) rfl (Lw.nil (Cw.seq (Cw.region (Lw.m v17 rfl (Lw.m (vI y51) rfl ?_)))))))))
      obtain ⟨u137, e138, hm⟩ := ob hm
      refine Lw.r rfl (R.ix (α := Int) o133.rd e138 rfl rfl rfl) (Lw.r rfl (R.ld rfl rfl (o133.rd.at_ e138).int) (Lw.add rfl (Lw.g (vI (w64 (u137 + 1))) rfl (Lw.nil (Cw.region (Lw.m v39 rfl (Lw.m (vI y51) rfl ?_)))))))
      obtain ⟨u139, e140, hm⟩ := ob hm
      refine Lw.r rfl (R.ix (α := Int) o134.rd e140 rfl rfl rfl) (Lw.r rfl (R.ld rfl rfl (o134.rd.at_ e140).int) (Lw.add rfl (Lw.g (vI (w64 (u139 + 1))) rfl (Lw.nil ?_))))
      obtain ⟨W141, ew141, l141, o141⟩ := o129.dyeO 2
      refine ⟨?_, ⟨y127, w64 (y51 + 1), w64 (u137 + 1), w64 (u139 + 1), v128, W141, ew141, ((l75.sub rfl).trans ((l84.sub rfl).trans ((l112.sub rfl).trans ((l121.sub rfl).trans ((l130.sub rfl).trans (l141.sub rfl)))))), rfl, o141, hm⟩⟩
      iterate 15 (refine Agree.up rfl ?_)
      iterate 1 (refine Agree.up rfl ?_)
      refine Agree.ov0 rfl ?_
      iterate 22 (refine Agree.up rfl ?_)
      iterate 1 (refine Agree.up rfl ?_)
      refine Agree.ov0 rfl ?_
      exact Agree.refl _
     ·refine Cw.seq (Cw.region (Lw.m (vI y51) rfl (Lw.m v0_ rfl (Lw.ln x0 (h0.ul a122) rfl (Lw.lt rfl (Lw.nil (Cw.cond (b := decide ((y51 : Int) < ((x0.length : Int) : Int))) rfl (fun hc148 => ?_) (fun hc148 => ?_))))))))
      ·replace hm := bt hm hc148
       refine Cw.region (Lw.m v0_121 rfl (Lw.m v0_ rfl (Lw.m (vI y51) rfl ?_)))
       obtain ⟨u149, e150, hm⟩ := ob hm
       refine Lw.r rfl (R.ix (α := Str) (h0.ul a122) e150 rfl rfl rfl) (Lw.r rfl (R.ld rfl rfl ((h0.ul a122).at_ e150).str) (Lw.t rfl (T.bsS (α := Str) (xs := [u149]) 12 [] (W := W121) [vS u149] (Each.cons ((rdS _)) Each.nil) rfl) ?_))
       rintro v151 _ ⟨W151, rfl, l151, o151⟩
       refine Lw.r rfl (R.bd (zs := [vB false, .slice none 0 0, .slice none 0 0, .slice none 0 0, .slice none 0 0]) (cs := [vB false, v151, .slice none 0 0, .slice none 0 0, .slice none 0 0]) [(1, v151)] rfl rfl rfl (bp_cons o151.oc rfl bp_nil)) ?_
       obtain ⟨z158, e159, hm⟩ := ob hm
       refine Lw.t rfl (T.call rfl (p94 (K := [0]) (k0 := 16) (c0 := 11) (c1 := 12) (c2 := 13) (c3 := 14) (c4 := 15) (x1 := (Vm.Part.mk false ([u149] : List Str) ([] : List Str) ([] : List Str) ([] : List Str))) (f121_0.up l151 rfl) o151 (owN 13 []) (owN 14 []) (owN 15 []) rfl e159)) ?_
       rintro v0_160 _ ⟨W160, rfl, l160, ⟨_, rfl, f160_0⟩⟩
       refine Lw.g v0_160 rfl (Lw.nil ?_)
       obtain ⟨W166, ew166, l166, o166⟩ := f160_0.dyeO 11
       refine ⟨?_, ⟨z158, v0_160, W166, ew166, ((l151.sub rfl).trans ((l160.sub rfl).trans (l166.sub rfl))), rfl, o166, hm⟩⟩
       iterate 13 (refine Agree.up rfl ?_)
       exact Agree.refl _
      ·replace hm := bf hm hc148
       refine Cw.skip (⟨?_, ⟨z119, v0_121, W121, rfl, Le.refl _ _, rfl, f121_0, hm⟩⟩)
       iterate 4 (refine Agree.up rfl ?_)
       exact Agree.refl _
   ·refine Cw.region (Lw.m v17 rfl (Lw.m (vI y51) rfl ?_))
    obtain ⟨u172, e173, hm⟩ := ob hm
    refine Lw.r rfl (R.ix (α := Int) o56.rd e173 rfl rfl rfl) (Lw.r rfl (R.ld rfl rfl (o56.rd.at_ e173).int) (Lw.lt rfl (Lw.m (vB (decide ((u172 : Int) < (0 : Int)))) rfl (bsplit (decide ((u172 : Int) < (0 : Int))) (fun hc174 => ?_) (fun hc174 => ?_)))))
    ·replace hm := bt hm hc174
     refine Lw.pass' hc174 rfl rfl rfl rfl rfl rfl rfl (Lw.pass' hc174 rfl rfl rfl rfl rfl rfl rfl (Lw.pass' hc174 rfl rfl rfl rfl rfl rfl rfl (Lw.pass' hc174 rfl rfl rfl rfl rfl rfl rfl (Lw.pass' hc174 rfl rfl rfl rfl rfl rfl rfl (Lw.p hc174 (vB true) rfl (Lw.nil (⟨?_, ⟨true, W52, rfl, Le.refl _ _, rfl, hm⟩⟩)))))))
     iterate 12 (refine Agree.up rfl ?_)
     exact Agree.refl _
    ·replace hm := bf hm hc174
     refine Lw.want' hc174 rfl rfl rfl rfl (Lw.m v39 rfl (Lw.want' hc174 rfl rfl rfl rfl (Lw.m (vI y51) rfl (Lw.want' hc174 rfl rfl rfl rfl ?_))))
     obtain ⟨u175, e176, hm⟩ := ob hm
     refine Lw.r rfl (R.ix (α := Int) o57.rd e176 rfl rfl rfl) (Lw.want' hc174 rfl rfl rfl rfl (Lw.r rfl (R.ld rfl rfl (o57.rd.at_ e176).int) (Lw.want' hc174 rfl rfl rfl rfl (Lw.lt rfl (Lw.p hc174 (vB (decide ((u175 : Int) < (0 : Int)))) rfl (Lw.nil (⟨?_, ⟨decide ((u175 : Int) < (0 : Int)), W52, rfl, Le.refl _ _, rfl, hm⟩⟩)))))))
     iterate 12 (refine Agree.up rfl ?_)
     exact Agree.refl _
 ·replace hm := bf hm hc60
  refine Cw.exit ?_
  rw [hK53] at hm
  refine Cw.seq (Cw.region (Lw.m v46 rfl (Lw.g v46 rfl (Lw.nil ?_))))
  cases hm
  exact Cw.ret (ret1 rfl (Res.mk a55 ⟨v46, rfl, o47.s.sub rfl rfl⟩))

theorem p67 {W : CW} {K : List Nat} {x0 : List Str} {v0_ : Value} {x1 : List Str} {v1_ : Value} {x2 : List Str} {v2_ : Value} {k0 : Nat} {r : (List Vm.Part)} (h0 : Rd W K [v0_] x0) (h1 : Rd W K [v1_] x1) (h2 : Rd W K [v2_] x2) (hm : Vm.spec_l3Of x0 x1 x2 = some r) : CallR Try.prog 67 [v0_, v1_, v2_].toArray W.w (Res W [] fun W' v => ∃ (u0 : Value), v = u0 ∧ Ow W' k0 [] [u0] r) :=
 (c67 (V := W.view K []) (h0.view _) (h1.view _) (h2.view _) hm).ad (fk k0) fun _ _ ⟨u0, e, f0⟩ => ⟨u0, e, f0.back (fk_LL _)⟩

end Go.Sx
