/- Walks: each function answers as its model, printed by a program of ours. Conditions: the arguments read as they are given. -/
import Derived.Test.YtjdljoplpcakpaaXTs
import Derived.Test.YtjdljoplpcakpaaXMd
import Derived.Test.YtjdljoplpcakpaaXW0
import Derived.Test.YtjdljoplpcakpaaXW1
import Derived.Test.YtjdljoplpcakpaaXW2
import Derived.Test.YtjdljoplpcakpaaXW4
namespace Go.Sx
open Go Go.Proofs Go.Vm Rp
set_option linter.unusedVariables false
set_option linter.unusedSimpArgs false

theorem c69 {V : CW} {x0 : List Str} {v0_ : Value} {x1 : List Str} {v1_ : Value} {x2 : List Str} {v2_ : Value} {r : (List Vm.Part)} (h0 : Rd V [0] [v0_] x0) (h1 : Rd V [0] [v1_] x1) (h2 : Rd V [0] [v2_] x2) (hm : Vm.impl_mergeOf x0 x1 x2 = some r) : CallR Try.prog 69 [v0_, v1_, v2_].toArray V.w (Res V LL fun Wf v => ∃ (u0 : Value), v = u0 ∧ OwS Wf LL [] [u0] r) := by
  unfold Vm.impl_mergeOf at hm
  obtain ⟨W0, hW0⟩ : ∃ W, W = V := ⟨V, rfl⟩
  subst hW0
  refine CallR.of Try.func69 rfl rfl rfl rfl ?_
  refine Cw.seq ?_
  refine Cw.region ?_
  refine Lw.r rfl (R.as (v := .slice none 0 0) rfl) ?_
  refine Lw.nil ?_
  refine Cw.seq ?_
  refine Cw.region ?_
  refine Lw.r rfl (R.mv (v := v0_) rfl) (Lw.r rfl (R.mv (v := v1_) rfl) ?_)
  obtain ⟨z1, e2, hm⟩ := ob hm
  refine Lw.t rfl (T.call rfl (p96 (K := [0]) (k0 := 2) h0 h1 e2)) ?_
  rintro v0_3 _ ⟨W3, rfl, l3, ⟨_, rfl, f3_0⟩⟩
  have a4 : Le LL _ _ := l3.nil
  have s5 := h1.ul a4
  refine Lw.r rfl (R.mv (v := v1_) rfl) (Lw.r rfl (lenR (xs := x1) s5 rfl) ?_)
  refine Lw.t rfl (T.bs 3 [vI (x1.length : Int)] (cs := [vI (x1.length : Int)]) rfl rfl (bsv rfl)) ?_
  rintro _ _ ⟨g6, W6, rfl, rfl, l6, b6⟩
  have a7 : Le LL _ _ := l6.nil
  have o8 := f3_0.up l6 rfl
  obtain ⟨q9, e10, hm⟩ := ob hm
  refine Lw.t rfl (T.app1S (α := Int) (K' := []) o8 b6 (rdI _) rfl rfl e10) ?_
  rintro v11 _ ⟨W11, rfl, l11, o11⟩
  have a12 : Le LL _ _ := l11.sub rfl
  have b13 := b6.up l11 rfl
  refine Lw.r rfl (R.mv (v := v0_) rfl) (Lw.r rfl (R.mv (v := v2_) rfl) ?_)
  have s14 := h0.ul (a4.trans (a7.trans a12))
  have s15 := h2.ul (a4.trans (a7.trans a12))
  obtain ⟨z16, e17, hm⟩ := ob hm
  refine Lw.t rfl (T.call rfl (p96 (K := [0]) (k0 := 4) s14 s15 e17)) ?_
  rintro v0_18 _ ⟨W18, rfl, l18, ⟨_, rfl, f18_0⟩⟩
  have a19 : Le LL _ _ := l18.nil
  have o20 := o11.up l18 rfl
  have b21 := b13.up l18 rfl
  have s22 := h2.ul (a4.trans (a7.trans (a12.trans a19)))
  refine Lw.r rfl (R.mv (v := v2_) rfl) (Lw.r rfl (lenR (xs := x2) s22 rfl) ?_)
  refine Lw.t rfl (T.bs 5 [vI (x2.length : Int)] (cs := [vI (x2.length : Int)]) rfl rfl (bsv rfl)) ?_
  rintro _ _ ⟨g23, W23, rfl, rfl, l23, b23⟩
  have a24 : Le LL _ _ := l23.nil
  have o25 := o20.up l23 rfl
  have o26 := f18_0.up l23 rfl
  have b27 := b21.up l23 rfl
  obtain ⟨q28, e29, hm⟩ := ob hm
  refine Lw.t rfl (T.app1S (α := Int) (K' := []) o26 b23 (rdI _) rfl rfl e29) ?_
  rintro v30 _ ⟨W30, rfl, l30, o30⟩
  have a31 : Le LL _ _ := l30.sub rfl
  have o32 := o25.up l30 rfl
  have b33 := b27.up l30 rfl
  have b34 := b23.up l30 rfl
  refine Lw.r rfl (R.as (v := v11) rfl) (Lw.r rfl (R.as (v := v30) rfl) ?_)
  refine Lw.nil ?_
  refine Cw.seq ?_
  refine Cw.region ?_
  refine Lw.t rfl (T.alloc 6 (cs := [.slice none 0 0]) rfl) ?_
  rintro _ _ ⟨g35, W35, rfl, rfl, l35, b35⟩
  have a36 : Le LL _ _ := l35.nil
  have o37 := o32.up l35 rfl
  have o38 := o30.up l35 rfl
  have b39 := b33.up l35 rfl
  have b40 := b34.up l35 rfl
  refine Lw.nil ?_
  refine Cw.seq ?_
  refine Cw.region ?_
  refine Lw.r rfl (R.mkF (vs := [ptr (bx g35)]) rfl) (Lw.r rfl (R.as (v := .func (.func 97) #[] [ptr (bx g35)].toArray) rfl) ?_)
  refine Lw.nil ?_
  refine Cw.seq ?_
  refine Cw.region ?_
  refine Lw.r rfl (R.as (v := vI 0) rfl) (Lw.r rfl (R.as (v := vI 0) rfl) (Lw.r rfl (R.as (v := vI 0) rfl) ?_))
  refine Lw.nil ?_
  refine Cw.seq ?_
  refine Cw.seq ?_
  refine Cw.region ?_
  refine Lw.r rfl (R.mv (v := v11) rfl) (Lw.r rfl (lenR (xs := q9) o37.rd rfl) (Lw.r rfl (R.mv (v := vI 0) rfl) ?_))
  refine Lw.nil ?_
  refine Cw.block ?_
  obtain ⟨K54, hK54, hm⟩ := jn_e hm
  refine Cw.loop 35 120 [11, 12, 13, 14, 15, 16, 17, 35] (fun m l w => ∃ (y41 : Int) (y42 : Int) (y43 : Int) (y48 : Int) (y49 : List Vm.Part) (j44 j45 j46 j47 v50 : Value) (W53 : CW), W53.w = w ∧ Le [6, 7, 8, 9, 10] W35 W53 ∧ l = [vI y41, vI y42, vI y43, j44, j45, j46, j47, vI y48] ∧ Ow W53 7 [] [v50] y49 ∧ Bx W53 6 g35 [v50] ∧ Vm.impl_mergeOf_l1 x0 x1 x2 q9 q28 K54 m y41 y42 y43 y48 y49 = some r) (((q9.length : Int) - 0).toNat + 1) ⟨0, 0, 0, 0, ([] : List Part), undef, undef, undef, undef, .slice none 0 0, W35, rfl, Le.refl _ _, rfl, owN 7 [], b35, hm⟩ ?_
  rintro m55 _ _ σ ⟨y41, y42, y43, y48, y49, j44, j45, j46, j47, v50, W53, rfl, l53, rfl, o51, b52, hm⟩
  obtain _ | m55 := m55
  · cases hm
  unfold Vm.impl_mergeOf_l1 at hm
  have a56 : Le LL _ _ := l53.sub rfl
  have o57 := o37.up l53 rfl
  have o58 := o38.up l53 rfl
  have b59 := b39.up l53 rfl
  have b60 := b40.up l53 rfl
  refine Cw.seq ?_
  refine Cw.region ?_
  refine Lw.r rfl (R.lt rfl rfl) ?_
  refine Lw.nil ?_
  refine Cw.seq ?_
  refine Cw.cond (b := decide ((y48 : Int) < ((q9.length : Int) : Int))) rfl (fun hc61 => ?_) (fun hc61 => ?_)
  · replace hm := bt hm hc61
    refine Cw.skip ?_
    obtain ⟨K74, hK74, hm⟩ := jn_e hm
    refine Cw.join 37 119 [11, 12, 13, 14, 15, 16, 17] (fun l w => ∃ (y62 : Int) (y63 : Int) (y64 : Int) (y69 : List Vm.Part) (j65 j66 j67 j68 v70 : Value) (W73 : CW), W73.w = w ∧ Le [6, 7, 8, 9, 10] W53 W73 ∧ l = [vI y62, vI y63, vI y64, j65, j66, j67, j68] ∧ Ow W73 7 [] [v70] y69 ∧ Bx W73 6 g35 [v70] ∧ K74 y62 y63 y64 y69 = some r) ?_ ?_
    · rintro _ _ σ ⟨y62, y63, y64, y69, j65, j66, j67, j68, v70, W73, rfl, l73, rfl, o71, b72, hm⟩
      rw [hK74] at hm
      have a75 : Le LL _ _ := l73.sub rfl
      have o76 := o57.up l73 rfl
      have o77 := o58.up l73 rfl
      have b78 := b59.up l73 rfl
      have b79 := b60.up l73 rfl
      refine Cw.region ?_
      refine Lw.r rfl (R.add rfl rfl) (Lw.r rfl (R.mv (v := vI (w64 (y48 + 1))) rfl) ?_)
      refine Lw.nil ?_
      refine ⟨?_, m55, Nat.lt_succ_self m55, ⟨y62, y63, y64, w64 (y48 + 1), y69, j65, j66, j67, j68, v70, W73, rfl, (l53.trans l73), rfl, o71, b72, hm⟩⟩
      iterate 2 (refine Agree.up rfl ?_)
      iterate 7 (refine Agree.up rfl ?_)
      refine Agree.ov0 rfl ?_
      iterate 1 (refine Agree.up rfl ?_)
      iterate 8 (refine Agree.up rfl ?_)
      exact Agree.base
    · refine Cw.block ?_
      refine Cw.seq ?_
      refine Cw.region ?_
      refine Lw.r rfl (R.mv (v := vI y48) rfl) (Lw.r rfl (R.as (v := vI y48) rfl) ?_)
      refine Lw.nil ?_
      refine Cw.seq ?_
      obtain ⟨K82, hK82, hm⟩ := jn_e hm
      refine Cw.join 38 49 [49] (fun l w => ∃ (y80 : Bool) (W81 : CW), W81.w = w ∧ Le [] W53 W81 ∧ l = [vB y80] ∧ K82 y80 = some r) ?_ ?_
      · rintro _ _ σ ⟨y80, W81, rfl, l81, rfl, hm⟩
        rw [hK82] at hm
        have a83 : Le LL _ _ := l81.nil
        have o84 := o57.up l81 rfl
        have o85 := o58.up l81 rfl
        have o86 := o51.up l81 rfl
        have b87 := b59.up l81 rfl
        have b88 := b60.up l81 rfl
        have b89 := b52.up l81 rfl
        refine Cw.cond (b := y80) rfl (fun hc90 => ?_) (fun hc90 => ?_)
        · replace hm := bt hm hc90
          refine Cw.exit ?_
          refine ⟨?_, ⟨y41, y42, y43, y49, vI y48, j45, j46, j47, v50, W81, rfl, (l81.sub rfl), rfl, o86, b89, hm⟩⟩
          iterate 1 (refine Agree.up rfl ?_)
          refine Agree.ov0 rfl ?_
          iterate 2 (refine Agree.up rfl ?_)
          exact Agree.refl _
        · replace hm := bf hm hc90
          refine Cw.skip ?_
          refine Cw.seq ?_
          refine Cw.draw [] [(0, 0), (1, 0), (2, 0), (3, 0), (4, 0), (5, 0), (6, 0), (7, 0), (8, 0), (9, 1), (10, 0), (11, 0), (12, 0), (13, 0), (14, 0), (15, 0), (16, 1), (17, 0), (18, 0), (19, 0), (20, 0)] mixed (by kernel_rfl) fun W91 l91 => ?_
          have a92 : Le LL _ _ := l91.nil
          have o93 := o84.up l91 rfl
          have o94 := o85.up l91 rfl
          have o95 := o86.up l91 rfl
          have b96 := b87.up l91 rfl
          have b97 := b88.up l91 rfl
          have b98 := b89.up l91 rfl
          refine Mw.p rfl rfl (fun _ => R.mv (v := v0_) rfl) (Mw.p rfl rfl (fun _ => R.mv (v := vI y41) rfl) (Mw.p rfl rfl (fun _ => R.mv (v := vI y48) rfl) ?_))
          obtain ⟨q99, e100, hm⟩ := ob hm
          have s101 := h0.ul (a4.trans (a7.trans (a12.trans (a19.trans (a24.trans (a31.trans (a36.trans (a56.trans (a83.trans a92)))))))))
          have r103 := s101.cutV e100
          refine Mw.p rfl rfl (fun _ => R.sl s101 e100 rfl (.inr rfl) (.inr rfl)) (Mw.p rfl rfl (fun _ => R.mv (v := v1_) rfl) (Mw.p rfl rfl (fun _ => R.mv (v := vI y42) rfl) (Mw.p rfl rfl (fun _ => R.mv (v := v11) rfl) (Mw.p rfl rfl (fun _ => R.mv (v := vI y48) rfl) ?_))))
          obtain ⟨u104, e105, hm⟩ := ob hm
          refine Mw.p rfl rfl (fun _ => R.ix (α := Int) o93.rd e105 rfl rfl rfl) (Mw.q rfl rfl (fun _ c => R.ld rfl rfl (cl_cell (o93.rd.at_ e105).1 rfl (o93.rd.at_ e105).int c)) ?_)
          obtain ⟨q106, e107, hm⟩ := ob hm
          have s108 := h1.ul (a4.trans (a7.trans (a12.trans (a19.trans (a24.trans (a31.trans (a36.trans (a56.trans (a83.trans a92)))))))))
          have r110 := s108.cutV e107
          refine Mw.p rfl rfl (fun _ => R.sl s108 e107 rfl (.inr rfl) (.inr rfl)) (Mw.p rfl rfl (fun _ => R.mv (v := v2_) rfl) (Mw.p rfl rfl (fun _ => R.mv (v := vI y43) rfl) (Mw.p rfl rfl (fun _ => R.mv (v := v30) rfl) (Mw.p rfl rfl (fun _ => R.mv (v := vI y48) rfl) ?_))))
          obtain ⟨u111, e112, hm⟩ := ob hm
          refine Mw.p rfl rfl (fun _ => R.ix (α := Int) o94.rd e112 rfl rfl rfl) (Mw.q rfl rfl (fun _ c => R.ld rfl rfl (cl_cell (o94.rd.at_ e112).1 rfl (o94.rd.at_ e112).int c)) ?_)
          obtain ⟨q113, e114, hm⟩ := ob hm
          have s115 := h2.ul (a4.trans (a7.trans (a12.trans (a19.trans (a24.trans (a31.trans (a36.trans (a56.trans (a83.trans a92)))))))))
          have r117 := s115.cutV e114
          refine Mw.p rfl rfl (fun _ => R.sl s115 e114 rfl (.inr rfl) (.inr rfl)) (Mw.p rfl rfl (fun _ => R.as (v := (cutV v0_ (y41 : Int).toNat (y48 : Int).toNat (Rp.sz (Str)))) rfl) (Mw.p rfl rfl (fun _ => R.as (v := (cutV v1_ (y42 : Int).toNat (u104 : Int).toNat (Rp.sz (Str)))) rfl) (Mw.p rfl rfl (fun _ => R.as (v := (cutV v2_ (y43 : Int).toNat (u111 : Int).toNat (Rp.sz (Str)))) rfl) ?_)))
          refine Mw.nil ?_
          obtain ⟨K123, hK123, hm⟩ := jn_e hm
          refine Cw.join 68 96 [] (fun l w => ∃ (y118 : List Vm.Part) (v119 : Value) (W122 : CW), W122.w = w ∧ Le [6, 7, 8, 9, 10] W91 W122 ∧ l = [] ∧ Ow W122 7 [] [v119] y118 ∧ Bx W122 6 g35 [v119] ∧ K123 y118 = some r) ?_ ?_
          · rintro _ _ σ ⟨y118, v119, W122, rfl, l122, rfl, o120, b121, hm⟩
            rw [hK123] at hm
            have a124 : Le LL _ _ := l122.sub rfl
            have o125 := o93.up l122 rfl
            have o126 := o94.up l122 rfl
            have b127 := b96.up l122 rfl
            have b128 := b97.up l122 rfl
            obtain ⟨K134, hK134, hm⟩ := jn_e hm
            refine Cw.join 97 107 [] (fun l w => ∃ (y129 : List Vm.Part) (v130 : Value) (W133 : CW), W133.w = w ∧ Le [6, 7] W122 W133 ∧ l = [] ∧ Ow W133 7 [] [v130] y129 ∧ Bx W133 6 g35 [v130] ∧ K134 y129 = some r) ?_ ?_
            · rintro _ _ σ ⟨y129, v130, W133, rfl, l133, rfl, o131, b132, hm⟩
              rw [hK134] at hm
              have a135 : Le LL _ _ := l133.sub rfl
              have o136 := o125.up l133 rfl
              have o137 := o126.up l133 rfl
              have b138 := b127.up l133 rfl
              have b139 := b128.up l133 rfl
              refine Cw.draw [] [(0, 0), (1, 0), (2, 0), (3, 0), (4, 0), (5, 1), (6, 0), (7, 0), (8, 0), (9, 0), (10, 1), (11, 0), (12, 0), (13, 0), (14, 0)] mixed (by kernel_rfl) fun W140 l140 => ?_
              have a141 : Le LL _ _ := l140.nil
              have o142 := o136.up l140 rfl
              have o143 := o137.up l140 rfl
              have o144 := o131.up l140 rfl
              have b145 := b138.up l140 rfl
              have b146 := b139.up l140 rfl
              have b147 := b132.up l140 rfl
              refine Mw.p rfl rfl (fun _ => R.mv (v := vI y48) rfl) (Mw.p rfl rfl (fun _ => R.add rfl rfl) (Mw.p rfl rfl (fun _ => R.mv (v := v11) rfl) (Mw.p rfl rfl (fun _ => R.mv (v := vI y48) rfl) ?_)))
              obtain ⟨u148, e149, hm⟩ := ob hm
              refine Mw.p rfl rfl (fun _ => R.ix (α := Int) o142.rd e149 rfl rfl rfl) (Mw.q rfl rfl (fun _ c => R.ld rfl rfl (cl_cell (o142.rd.at_ e149).1 rfl (o142.rd.at_ e149).int c)) (Mw.p rfl rfl (fun _ => R.add rfl rfl) (Mw.p rfl rfl (fun _ => R.mv (v := v30) rfl) (Mw.p rfl rfl (fun _ => R.mv (v := vI y48) rfl) ?_))))
              obtain ⟨u150, e151, hm⟩ := ob hm
              refine Mw.p rfl rfl (fun _ => R.ix (α := Int) o143.rd e151 rfl rfl rfl) (Mw.q rfl rfl (fun _ c => R.ld rfl rfl (cl_cell (o143.rd.at_ e151).1 rfl (o143.rd.at_ e151).int c)) (Mw.p rfl rfl (fun _ => R.add rfl rfl) (Mw.p rfl rfl (fun _ => R.as (v := vI (w64 (y48 + 1))) rfl) (Mw.p rfl rfl (fun _ => R.as (v := vI (w64 (u148 + 1))) rfl) (Mw.p rfl rfl (fun _ => R.as (v := vI (w64 (u150 + 1))) rfl) ?_)))))
              refine Mw.nil ?_
              refine ⟨?_, ⟨w64 (y48 + 1), w64 (u148 + 1), w64 (u150 + 1), y129, vI y48, (cutV v0_ (y41 : Int).toNat (y48 : Int).toNat (Rp.sz (Str))), (cutV v1_ (y42 : Int).toNat (u104 : Int).toNat (Rp.sz (Str))), (cutV v2_ (y43 : Int).toNat (u111 : Int).toNat (Rp.sz (Str))), v130, W140, rfl, ((l81.sub rfl).trans ((l91.sub rfl).trans (l122.trans ((l133.sub rfl).trans (l140.sub rfl))))), rfl, o144, b147, hm⟩⟩
              iterate 15 (refine Agree.up rfl ?_)
              refine Agree.ov0 rfl ?_
              refine Agree.ov0 rfl ?_
              iterate 21 (refine Agree.up rfl ?_)
              iterate 1 (refine Agree.up rfl ?_)
              refine Agree.ov0 rfl ?_
              iterate 2 (refine Agree.up rfl ?_)
              exact Agree.refl _
            · refine Cw.seq ?_
              refine Cw.region ?_
              have s152 := h0.ul (a4.trans (a7.trans (a12.trans (a19.trans (a24.trans (a31.trans (a36.trans (a56.trans (a83.trans (a92.trans a124))))))))))
              refine Lw.r rfl (R.mv (v := vI y48) rfl) (Lw.r rfl (R.mv (v := v0_) rfl) (Lw.r rfl (lenR (xs := x0) s152 rfl) (Lw.r rfl (R.lt rfl rfl) ?_)))
              refine Lw.nil ?_
              refine Cw.cond (b := decide ((y48 : Int) < ((x0.length : Int) : Int))) rfl (fun hc153 => ?_) (fun hc153 => ?_)
              · replace hm := bt hm hc153
                refine Cw.region ?_
                refine Lw.r rfl (R.mv (v := .func (.func 97) #[] [ptr (bx g35)].toArray) rfl) (Lw.r rfl (R.mv (v := v0_) rfl) (Lw.r rfl (R.mv (v := vI y48) rfl) (Lw.r rfl (R.mv (v := vI y48) rfl) (Lw.r rfl (R.add rfl rfl) ?_))))
                obtain ⟨q154, e155, hm⟩ := ob hm
                have r157 := s152.cutV e155
                refine Lw.r rfl (R.sl s152 e155 rfl (.inr rfl) (.inr rfl)) ?_
                obtain ⟨z158, e159, hm⟩ := ob hm
                refine Lw.t rfl (T.callV (vals := [(cutV v0_ (y48 : Int).toNat (w64 (y48 + 1) : Int).toNat (Rp.sz (Str)))]) (caps := [ptr (bx g35)]) rfl rfl (p97 (K := [0])  (c0 := 6) (c1 := 7) (x1 := y118) r157 b121 o120 rfl e159)) ?_
                rintro _ _ ⟨W160, rfl, l160, ⟨w1_160, rfl, f160_0, f160_1⟩⟩
                have a161 : Le LL _ _ := l160.sub rfl
                have o162 := o125.up l160 rfl
                have o163 := o126.up l160 rfl
                have b164 := b127.up l160 rfl
                have b165 := b128.up l160 rfl
                refine Lw.nil ?_
                refine ⟨?_, ⟨z158, w1_160, W160, rfl, l160, rfl, f160_0, f160_1, hm⟩⟩
                iterate 11 (refine Agree.up rfl ?_)
                exact Agree.refl _
              · replace hm := bf hm hc153
                refine Cw.skip ?_
                refine ⟨?_, ⟨y118, v119, W122, rfl, Le.refl _ _, rfl, o120, b121, hm⟩⟩
                iterate 4 (refine Agree.up rfl ?_)
                exact Agree.refl _
          · refine Cw.block ?_
            obtain ⟨K168, hK168, hm⟩ := jn_e hm
            refine Cw.join 78 86 [78] (fun l w => ∃ (y166 : Bool) (W167 : CW), W167.w = w ∧ Le [] W91 W167 ∧ l = [vB y166] ∧ K168 y166 = some r) ?_ ?_
            · rintro _ _ σ ⟨y166, W167, rfl, l167, rfl, hm⟩
              rw [hK168] at hm
              have a169 : Le LL _ _ := l167.nil
              have o170 := o93.up l167 rfl
              have o171 := o94.up l167 rfl
              have o172 := o95.up l167 rfl
              have b173 := b96.up l167 rfl
              have b174 := b97.up l167 rfl
              have b175 := b98.up l167 rfl
              refine Cw.cond (b := y166) rfl (fun hc176 => ?_) (fun hc176 => ?_)
              · replace hm := bt hm hc176
                refine Cw.region ?_
                refine Lw.r rfl (R.mv (v := .func (.func 97) #[] [ptr (bx g35)].toArray) rfl) (Lw.r rfl (R.mv (v := (cutV v2_ (y43 : Int).toNat (u111 : Int).toNat (Rp.sz (Str)))) rfl) ?_)
                have s177 := r117.ul a169
                obtain ⟨z178, e179, hm⟩ := ob hm
                refine Lw.t rfl (T.callV (vals := [(cutV v2_ (y43 : Int).toNat (u111 : Int).toNat (Rp.sz (Str)))]) (caps := [ptr (bx g35)]) rfl rfl (p97 (K := [0])  (c0 := 6) (c1 := 7) (x1 := y49) s177 b175 o172 rfl e179)) ?_
                rintro _ _ ⟨W180, rfl, l180, ⟨w1_180, rfl, f180_0, f180_1⟩⟩
                have a181 : Le LL _ _ := l180.sub rfl
                have o182 := o170.up l180 rfl
                have o183 := o171.up l180 rfl
                have b184 := b173.up l180 rfl
                have b185 := b174.up l180 rfl
                refine Lw.nil ?_
                refine ⟨?_, ⟨z178, w1_180, W180, rfl, ((l167.sub rfl).trans (l180.sub rfl)), rfl, f180_0, f180_1, hm⟩⟩
                iterate 3 (refine Agree.up rfl ?_)
                iterate 1 (refine Agree.up rfl ?_)
                refine Agree.ov0 rfl ?_
                exact Agree.refl _
              · replace hm := bf hm hc176
                refine Cw.seq ?_
                refine Cw.region ?_
                refine Lw.r rfl (R.mv (v := (cutV v2_ (y43 : Int).toNat (u111 : Int).toNat (Rp.sz (Str)))) rfl) (Lw.r rfl (R.mv (v := (cutV v0_ (y41 : Int).toNat (y48 : Int).toNat (Rp.sz (Str)))) rfl) ?_)
                have s186 := r117.ul a169
                have s187 := r103.ul a169
                obtain ⟨z188, e189, hm⟩ := ob hm
                refine Lw.t rfl (T.call rfl (p56 (K := [0])  s186 s187 e189)) ?_
                rintro _ _ ⟨W190, rfl, l190, rfl⟩
                have a191 : Le LL _ _ := l190.nil
                have o192 := o170.up l190 rfl
                have o193 := o171.up l190 rfl
                have o194 := o172.up l190 rfl
                have b195 := b173.up l190 rfl
                have b196 := b174.up l190 rfl
                have b197 := b175.up l190 rfl
                refine Lw.r rfl (R.as (v := vB z188) rfl) ?_
                refine Lw.nil ?_
                refine Cw.cond (b := z188) rfl (fun hc198 => ?_) (fun hc198 => ?_)
                · replace hm := bt hm hc198
                  refine Cw.region ?_
                  refine Lw.r rfl (R.mv (v := .func (.func 97) #[] [ptr (bx g35)].toArray) rfl) (Lw.r rfl (R.mv (v := (cutV v1_ (y42 : Int).toNat (u104 : Int).toNat (Rp.sz (Str)))) rfl) ?_)
                  have s199 := r110.ul (a169.trans a191)
                  obtain ⟨z200, e201, hm⟩ := ob hm
                  refine Lw.t rfl (T.callV (vals := [(cutV v1_ (y42 : Int).toNat (u104 : Int).toNat (Rp.sz (Str)))]) (caps := [ptr (bx g35)]) rfl rfl (p97 (K := [0])  (c0 := 6) (c1 := 7) (x1 := y49) s199 b197 o194 rfl e201)) ?_
                  rintro _ _ ⟨W202, rfl, l202, ⟨w1_202, rfl, f202_0, f202_1⟩⟩
                  have a203 : Le LL _ _ := l202.sub rfl
                  have o204 := o192.up l202 rfl
                  have o205 := o193.up l202 rfl
                  have b206 := b195.up l202 rfl
                  have b207 := b196.up l202 rfl
                  refine Lw.nil ?_
                  refine ⟨?_, ⟨z200, w1_202, W202, rfl, ((l167.sub rfl).trans ((l190.sub rfl).trans (l202.sub rfl))), rfl, f202_0, f202_1, hm⟩⟩
                  iterate 7 (refine Agree.up rfl ?_)
                  iterate 1 (refine Agree.up rfl ?_)
                  refine Agree.ov0 rfl ?_
                  exact Agree.refl _
                · replace hm := bf hm hc198
                  refine Cw.draw [] [(0, 1), (1, 0), (3, 0), (5, 0), (2, 2), (4, 2), (6, 2), (7, 0), (8, 2), (9, 3), (10, 3)] mixed (by kernel_rfl) fun W208 l208 => ?_
                  have a209 : Le LL _ _ := l208.nil
                  have o210 := o192.up l208 rfl
                  have o211 := o193.up l208 rfl
                  have o212 := o194.up l208 rfl
                  have b213 := b195.up l208 rfl
                  have b214 := b196.up l208 rfl
                  have b215 := b197.up l208 rfl
                  refine Mw.q rfl rfl (fun _ c => R.ld (v := v50) rfl rfl (b215.clc0 rfl rfl c)) (Mw.p rfl rfl (fun _ => R.mv (v := (cutV v0_ (y41 : Int).toNat (y48 : Int).toNat (Rp.sz (Str)))) rfl) (Mw.p rfl rfl (fun _ => R.mv (v := (cutV v1_ (y42 : Int).toNat (u104 : Int).toNat (Rp.sz (Str)))) rfl) (Mw.p rfl rfl (fun _ => R.mv (v := (cutV v2_ (y43 : Int).toNat (u111 : Int).toNat (Rp.sz (Str)))) rfl) ?_)))
                  have s216 := r103.ul (a169.trans (a191.trans a209))
                  obtain ⟨z217, e218, hm⟩ := ob hm
                  refine Mw.t rfl rfl (T.call rfl (p91 (K := [0]) (k0 := 8) s216 e218)) ?_
                  rintro v0_219 _ ⟨W219, rfl, l219, ⟨_, rfl, f219_0⟩⟩
                  have a220 : Le LL _ _ := l219.nil
                  have o221 := o210.up l219 rfl
                  have o222 := o211.up l219 rfl
                  have o223 := o212.up l219 rfl
                  have b224 := b213.up l219 rfl
                  have b225 := b214.up l219 rfl
                  have b226 := b215.up l219 rfl
                  refine ⟨⟨_, rfl, (l219.sub (M := []) rfl)⟩, ?_⟩
                  have s227 := r110.ul (a169.trans (a191.trans (a209.trans a220)))
                  obtain ⟨z228, e229, hm⟩ := ob hm
                  refine Mw.t rfl rfl (T.call rfl (p91 (K := [0]) (k0 := 9) s227 e229)) ?_
                  rintro v0_230 _ ⟨W230, rfl, l230, ⟨_, rfl, f230_0⟩⟩
                  have a231 : Le LL _ _ := l230.nil
                  have o232 := o221.up l230 rfl
                  have o233 := o222.up l230 rfl
                  have o234 := o223.up l230 rfl
                  have o235 := f219_0.up l230 rfl
                  have b236 := b224.up l230 rfl
                  have b237 := b225.up l230 rfl
                  have b238 := b226.up l230 rfl
                  refine ⟨⟨_, rfl, ((l219.sub (M := []) rfl).trans (l230.sub (M := []) rfl))⟩, ?_⟩
                  have s239 := r117.ul (a169.trans (a191.trans (a209.trans (a220.trans a231))))
                  obtain ⟨z240, e241, hm⟩ := ob hm
                  refine Mw.t rfl rfl (T.call rfl (p91 (K := [0]) (k0 := 10) s239 e241)) ?_
                  rintro v0_242 _ ⟨W242, rfl, l242, ⟨_, rfl, f242_0⟩⟩
                  have a243 : Le LL _ _ := l242.nil
                  have o244 := o232.up l242 rfl
                  have o245 := o233.up l242 rfl
                  have o246 := o234.up l242 rfl
                  have o247 := o235.up l242 rfl
                  have o248 := f230_0.up l242 rfl
                  have b249 := b236.up l242 rfl
                  have b250 := b237.up l242 rfl
                  have b251 := b238.up l242 rfl
                  refine ⟨⟨_, rfl, ((l219.sub (M := []) rfl).trans ((l230.sub (M := []) rfl).trans (l242.sub (M := []) rfl)))⟩, ?_⟩
                  refine Mw.p rfl rfl (fun _ => R.bd (zs := [vB false, .slice none 0 0, .slice none 0 0, .slice none 0 0, .slice none 0 0]) (cs := [vB true, .slice none 0 0, v0_219, v0_230, v0_242]) [(0, vB true), (2, v0_219), (3, v0_230), (4, v0_242)] rfl rfl rfl (bp_cons rfl rfl (bp_cons o247.oc rfl (bp_cons o248.oc rfl (bp_cons f242_0.oc rfl bp_nil))))) ?_
                  refine Mw.t rfl rfl (T.bs 11 [.agg [vB true, .slice none 0 0, v0_219, v0_230, v0_242].toArray] (cs := [vB true, .slice none 0 0, v0_219, v0_230, v0_242]) rfl rfl (bsA rfl)) ?_
                  rintro _ _ ⟨g252, W252, rfl, rfl, l252, b252⟩
                  have a253 : Le LL _ _ := l252.nil
                  have o254 := o244.up l252 rfl
                  have o255 := o245.up l252 rfl
                  have o256 := o246.up l252 rfl
                  have o257 := o247.up l252 rfl
                  have o258 := o248.up l252 rfl
                  have o259 := f242_0.up l252 rfl
                  have b260 := b249.up l252 rfl
                  have b261 := b250.up l252 rfl
                  have b262 := b251.up l252 rfl
                  refine ⟨⟨_, rfl, ((l219.sub (M := []) rfl).trans ((l230.sub (M := []) rfl).trans ((l242.sub (M := []) rfl).trans (l252.sub (M := []) rfl))))⟩, ?_⟩
                  obtain ⟨q263, e264, hm⟩ := ob hm
                  refine Mw.l rfl rfl (T.app1 (α := Part) (J := [8, 9, 10]) (K' := []) o256 b252 (Part.own true ([] : List Str) z217 z228 z240 (owsN []) o257.s o258.s o259.s) rfl rfl e264) ?_
                  rintro v265 _ ⟨W265, rfl, l265, o265⟩
                  have a266 : Le LL _ _ := l265.sub rfl
                  have o267 := o254.up l265 rfl
                  have o268 := o255.up l265 rfl
                  have b269 := b260.up l265 rfl
                  have b270 := b261.up l265 rfl
                  have b271 := b262.up l265 rfl
                  have b272 := b252.up l265 rfl
                  refine Mw.lu rfl (T.st0 (v := v265) b271 rfl rfl o265.oc rfl rfl) ?_
                  rintro _ _ ⟨W273, rfl, l273, b273⟩
                  have a274 : Le LL _ _ := l273.sub rfl
                  have o275 := o267.up l273 rfl
                  have o276 := o268.up l273 rfl
                  have o277 := o265.up l273 rfl
                  have b278 := b269.up l273 rfl
                  have b279 := b270.up l273 rfl
                  have b280 := b272.up l273 rfl
                  refine Mw.nil ?_
                  refine ⟨?_, ⟨q263, v265, W273, rfl, ((l167.sub rfl).trans ((l190.sub rfl).trans ((l208.sub rfl).trans ((l219.sub rfl).trans ((l230.sub rfl).trans ((l242.sub rfl).trans ((l252.sub rfl).trans ((l265.sub rfl).trans (l273.sub rfl))))))))), rfl, o277, b273, hm⟩⟩
                  iterate 14 (refine Agree.up rfl ?_)
                  iterate 1 (refine Agree.up rfl ?_)
                  refine Agree.ov0 rfl ?_
                  exact Agree.refl _
            · refine Cw.region ?_
              refine Lw.r rfl (R.mv (v := (cutV v1_ (y42 : Int).toNat (u104 : Int).toNat (Rp.sz (Str)))) rfl) (Lw.r rfl (R.mv (v := (cutV v0_ (y41 : Int).toNat (y48 : Int).toNat (Rp.sz (Str)))) rfl) ?_)
              obtain ⟨z281, e282, hm⟩ := ob hm
              refine Lw.t rfl (T.call rfl (p56 (K := [0])  r110 r103 e282)) ?_
              rintro _ _ ⟨W283, rfl, l283, rfl⟩
              have a284 : Le LL _ _ := l283.nil
              have o285 := o93.up l283 rfl
              have o286 := o94.up l283 rfl
              have o287 := o95.up l283 rfl
              have b288 := b96.up l283 rfl
              have b289 := b97.up l283 rfl
              have b290 := b98.up l283 rfl
              refine Lw.r rfl (R.mv (v := vB z281) rfl) ?_
              refine bsplit z281 (fun hc291 => ?_) (fun hc291 => ?_)
              · replace hm := bt hm hc291
                refine Lw.pass' hc291 rfl rfl rfl rfl rfl rfl rfl ?_
                refine Lw.pass' hc291 rfl rfl rfl rfl rfl rfl rfl ?_
                refine Lw.pass' hc291 rfl rfl rfl rfl rfl rfl rfl ?_
                refine Lw.r rfl (R.pk hc291 rfl (v := vB true) rfl) (Lw.r rfl (R.as (v := vB true) rfl) ?_)
                refine Lw.nil ?_
                refine ⟨?_, ⟨true, W283, rfl, l283, rfl, hm⟩⟩
                iterate 9 (refine Agree.up rfl ?_)
                exact Agree.refl _
              · replace hm := bf hm hc291
                refine Lw.want' hc291 rfl rfl rfl rfl ?_
                refine Lw.r rfl (R.mv (v := (cutV v1_ (y42 : Int).toNat (u104 : Int).toNat (Rp.sz (Str)))) rfl) ?_
                refine Lw.want' hc291 rfl rfl rfl rfl ?_
                refine Lw.r rfl (R.mv (v := (cutV v2_ (y43 : Int).toNat (u111 : Int).toNat (Rp.sz (Str)))) rfl) ?_
                refine Lw.want' hc291 rfl rfl rfl rfl ?_
                have s292 := r110.ul a284
                have s293 := r117.ul a284
                obtain ⟨z294, e295, hm⟩ := ob hm
                refine Lw.t rfl (T.call rfl (p56 (K := [0])  s292 s293 e295)) ?_
                rintro _ _ ⟨W296, rfl, l296, rfl⟩
                have a297 : Le LL _ _ := l296.nil
                have o298 := o285.up l296 rfl
                have o299 := o286.up l296 rfl
                have o300 := o287.up l296 rfl
                have b301 := b288.up l296 rfl
                have b302 := b289.up l296 rfl
                have b303 := b290.up l296 rfl
                refine Lw.r rfl (R.pk hc291 rfl (v := vB z294) rfl) (Lw.r rfl (R.as (v := vB z294) rfl) ?_)
                refine Lw.nil ?_
                refine ⟨?_, ⟨z294, W296, rfl, (l283.trans l296), rfl, hm⟩⟩
                iterate 9 (refine Agree.up rfl ?_)
                exact Agree.refl _
      · refine Cw.region ?_
        refine Lw.r rfl (R.mv (v := v11) rfl) (Lw.r rfl (R.mv (v := vI y48) rfl) ?_)
        obtain ⟨u304, e305, hm⟩ := ob hm
        refine Lw.r rfl (R.ix (α := Int) o57.rd e305 rfl rfl rfl) (Lw.r rfl (R.ld rfl rfl (o57.rd.at_ e305).int) (Lw.r rfl (R.lt rfl rfl) (Lw.r rfl (R.mv (v := vB (decide ((u304 : Int) < (0 : Int)))) rfl) ?_)))
        refine bsplit (decide ((u304 : Int) < (0 : Int))) (fun hc306 => ?_) (fun hc306 => ?_)
        · replace hm := bt hm hc306
          refine Lw.pass' hc306 rfl rfl rfl rfl rfl rfl rfl ?_
          refine Lw.pass' hc306 rfl rfl rfl rfl rfl rfl rfl ?_
          refine Lw.pass' hc306 rfl rfl rfl rfl rfl rfl rfl ?_
          refine Lw.pass' hc306 rfl rfl rfl rfl rfl rfl rfl ?_
          refine Lw.pass' hc306 rfl rfl rfl rfl rfl rfl rfl ?_
          refine Lw.r rfl (R.pk hc306 rfl (v := vB true) rfl) ?_
          refine Lw.nil ?_
          refine ⟨?_, ⟨true, W53, rfl, Le.refl _ _, rfl, hm⟩⟩
          iterate 12 (refine Agree.up rfl ?_)
          exact Agree.refl _
        · replace hm := bf hm hc306
          refine Lw.want' hc306 rfl rfl rfl rfl ?_
          refine Lw.r rfl (R.mv (v := v30) rfl) ?_
          refine Lw.want' hc306 rfl rfl rfl rfl ?_
          refine Lw.r rfl (R.mv (v := vI y48) rfl) ?_
          refine Lw.want' hc306 rfl rfl rfl rfl ?_
          obtain ⟨u307, e308, hm⟩ := ob hm
          refine Lw.r rfl (R.ix (α := Int) o58.rd e308 rfl rfl rfl) ?_
          refine Lw.want' hc306 rfl rfl rfl rfl ?_
          refine Lw.r rfl (R.ld rfl rfl (o58.rd.at_ e308).int) ?_
          refine Lw.want' hc306 rfl rfl rfl rfl ?_
          refine Lw.r rfl (R.lt rfl rfl) (Lw.r rfl (R.pk hc306 rfl (v := vB (decide ((u307 : Int) < (0 : Int)))) rfl) ?_)
          refine Lw.nil ?_
          refine ⟨?_, ⟨decide ((u307 : Int) < (0 : Int)), W53, rfl, Le.refl _ _, rfl, hm⟩⟩
          iterate 12 (refine Agree.up rfl ?_)
          exact Agree.refl _
  · replace hm := bf hm hc61
    refine Cw.exit ?_
    rw [hK54] at hm
    refine Cw.seq ?_
    refine Cw.region ?_
    refine Lw.r rfl (R.ld (v := v50) rfl rfl (b52.cell0 rfl)) (Lw.r rfl (R.as (v := v50) rfl) ?_)
    refine Lw.nil ?_
    cases hm
    exact Cw.ret (ret1 rfl (Res.mk (a4.trans (a7.trans (a12.trans (a19.trans (a24.trans (a31.trans (a36.trans a56))))))) ⟨v50, rfl, o51.s.sub rfl rfl⟩))

theorem p69 {W : CW} {K : List Nat} {x0 : List Str} {v0_ : Value} {x1 : List Str} {v1_ : Value} {x2 : List Str} {v2_ : Value} {k0 : Nat} {r : (List Vm.Part)} (h0 : Rd W K [v0_] x0) (h1 : Rd W K [v1_] x1) (h2 : Rd W K [v2_] x2) (hm : Vm.impl_mergeOf x0 x1 x2 = some r) : CallR Try.prog 69 [v0_, v1_, v2_].toArray W.w (Res W [] fun W' v => ∃ (u0 : Value), v = u0 ∧ Ow W' k0 [] [u0] r) :=
  (c69 (V := W.view K []) (h0.view _) (h1.view _) (h2.view _) hm).ad (fk k0) fun _ _ ⟨u0, e, f0⟩ => ⟨u0, e, f0.back (fk_LL _)⟩

theorem c70 {V : CW} {x0 : List Vm.Memo} {v0_ : Value} {x1 : Vm.Part} {v1_1_ : Value} {v1_2_ : Value} {v1_3_ : Value} {v1_4_ : Value} {r : (List Str) × Bool} (h0 : Rd V [0] [v0_] x0) (h1 : Rd V [0] [vB x1.Clash, v1_1_, v1_2_, v1_3_, v1_4_] x1) (hm : Vm.impl_done x0 x1 = some r) : CallR Try.prog 70 [v0_, .agg [vB x1.Clash, v1_1_, v1_2_, v1_3_, v1_4_].toArray].toArray V.w (Res V LL fun Wf v => ∃ (u0 : Value), v = .tuple [u0, vB r.2].toArray ∧ Rd Wf [0] [u0] r.1) := by
  unfold Vm.impl_done at hm
  obtain ⟨w1_0, w1_1, w1_2, w1_3, he1, h1_1, h1_2, h1_3, h1_4⟩ := Part.split h1
  simp only [List.cons.injEq, and_true, true_and] at he1
  obtain ⟨rfl, rfl, rfl, rfl⟩ := he1
  obtain ⟨W0, hW0⟩ : ∃ W, W = V := ⟨V, rfl⟩
  subst hW0
  refine CallR.of Try.func70 rfl rfl rfl rfl ?_
  refine Cw.seq ?_
  refine Cw.region ?_
  refine Lw.t rfl (T.box 2 (v := .agg [vB x1.Clash, v1_1_, v1_2_, v1_3_, v1_4_].toArray) (cs := [vB x1.Clash, v1_1_, v1_2_, v1_3_, v1_4_]) rfl rfl) ?_
  rintro _ _ ⟨g1, W1, rfl, rfl, l1, b1⟩
  have a2 : Le LL _ _ := l1.nil
  refine Lw.r rfl (R.as (v := .slice none 0 0) rfl) (Lw.r rfl (R.as (v := vB false) rfl) ?_)
  refine Lw.nil ?_
  refine Cw.seq ?_
  refine Cw.seq ?_
  refine Cw.region ?_
  have s3 := h0.ul a2
  refine Lw.r rfl (R.mv (v := v0_) rfl) (Lw.r rfl (lenR (xs := x0) s3 rfl) (Lw.r rfl (R.mv (v := vI 0) rfl) ?_))
  refine Lw.nil ?_
  refine Cw.block ?_
  obtain ⟨K11, hK11, hm⟩ := jn_e hm
  refine Cw.loop 10 24 [4, 5, 7, 10] (fun m l w => ∃ (y4 : List Str) (y7 : Bool) (y9 : Int) (v5 j8 : Value) (W10 : CW), W10.w = w ∧ Le [4] W1 W10 ∧ l = [v5, vB y7, j8, vI y9] ∧ Ow W10 3 [] [v5] y4 ∧ Vm.impl_done_l1 x0 x1 K11 m y4 y7 y9 = some r) (((x0.length : Int) - 0).toNat + 1) ⟨([] : List Str), false, 0, .slice none 0 0, undef, W1, rfl, Le.refl _ _, rfl, owN 3 [], hm⟩ ?_
  rintro m12 _ _ σ ⟨y4, y7, y9, v5, j8, W10, rfl, l10, rfl, o6, hm⟩
  obtain _ | m12 := m12
  · cases hm
  unfold Vm.impl_done_l1 at hm
  have a13 : Le LL _ _ := l10.sub rfl
  have b14 := b1.up l10 rfl
  refine Cw.seq ?_
  refine Cw.region ?_
  refine Lw.r rfl (R.lt rfl rfl) ?_
  refine Lw.nil ?_
  refine Cw.seq ?_
  refine Cw.cond (b := decide ((y9 : Int) < ((x0.length : Int) : Int))) rfl (fun hc15 => ?_) (fun hc15 => ?_)
  · replace hm := bt hm hc15
    refine Cw.skip ?_
    refine Cw.seq ?_
    refine Cw.block ?_
    refine Cw.seq ?_
    refine Cw.region ?_
    obtain ⟨u16, e17, hm⟩ := ob hm
    have s18 := h0.ul (a2.trans a13)
    refine Lw.r rfl (R.ix (α := Memo) s18 e17 rfl rfl rfl) ?_
    obtain ⟨x19, c20, _, r21⟩ := (s18.at_ e17).cells
    obtain ⟨v22, v24, v26, v28, rfl, r23, r25, r27, r29⟩ := Memo.split r21
    refine Lw.r rfl (R.lda c20 rfl rfl) ?_
    refine Lw.t rfl (T.alloc 4 (cs := [.slice none 0 0, .slice none 0 0, .slice none 0 0, .slice none 0 0]) rfl) ?_
    rintro _ _ ⟨g30, W30, rfl, rfl, l30, b30⟩
    have a31 : Le LL _ _ := l30.nil
    have o32 := o6.up l30 rfl
    have b33 := b14.up l30 rfl
    refine Lw.u (T.sta (vs := [v22, v24, v26, v28]) b30 rfl rfl (oc_cons r23.oc (oc_cons r25.oc (oc_cons r27.oc (oc_cons r29.oc oc_nil)))) rfl rfl) ?_
    rintro _ _ ⟨W34, rfl, l34, b34⟩
    have a35 : Le LL _ _ := l34.sub rfl
    have o36 := o32.up l34 rfl
    have b37 := b33.up l34 rfl
    refine Lw.nil ?_
    refine Cw.seq ?_
    refine Cw.region ?_
    refine Lw.r rfl (R.lda (cs := [v22, v24, v26, v28]) b34.cells rfl rfl) (Lw.r rfl (R.fa rfl) (Lw.r rfl (R.ld (v := v1_2_) rfl rfl (b37.cell rfl)) (Lw.r rfl (R.fa rfl) (Lw.r rfl (R.ld (v := v1_3_) rfl rfl (b37.cell rfl)) (Lw.r rfl (R.fa rfl) (Lw.r rfl (R.ld (v := v1_4_) rfl rfl (b37.cell rfl)) ?_))))))
    have s38 := r23.ul (a31.trans a35)
    have s39 := r25.ul (a31.trans a35)
    have s40 := r27.ul (a31.trans a35)
    have s41 := r29.ul (a31.trans a35)
    have s42 := h1_2.ul (a2.trans (a13.trans (a31.trans a35)))
    have s43 := h1_3.ul (a2.trans (a13.trans (a31.trans a35)))
    have s44 := h1_4.ul (a2.trans (a13.trans (a31.trans a35)))
    obtain ⟨z45, e46, hm⟩ := ob hm
    refine Lw.t rfl (T.call rfl (p57 (K := [0])  (Memo.rd (K := [0]) u16.Old u16.One u16.Two u16.Done s38 s39 s40 s41) s42 s43 s44 e46)) ?_
    rintro _ _ ⟨W47, rfl, l47, rfl⟩
    have a48 : Le LL _ _ := l47.nil
    have o49 := o36.up l47 rfl
    have b50 := b37.up l47 rfl
    have b51 := b34.up l47 rfl
    refine Lw.nil ?_
    refine Cw.cond (b := z45) rfl (fun hc52 => ?_) (fun hc52 => ?_)
    · replace hm := bt hm hc52
      refine Cw.seq ?_
      refine Cw.region ?_
      refine Lw.r rfl (R.fa rfl) (Lw.r rfl (R.ld (v := v28) rfl rfl (b51.cell rfl)) (Lw.r rfl (R.as (v := v28) rfl) (Lw.r rfl (R.as (v := vB true) rfl) ?_)))
      refine Lw.nil ?_
      have s53 := r29.ul (a31.trans (a35.trans a48))
      cases hm
      exact Cw.ret (ret2 rfl rfl (Res.mk (a2.trans (a13.trans (a31.trans (a35.trans a48)))) ⟨v28, rfl, s53⟩))
    · replace hm := bf hm hc52
      refine Cw.skip ?_
      refine Cw.region ?_
      refine Lw.r rfl (R.add rfl rfl) (Lw.r rfl (R.mv (v := vI (w64 (y9 + 1))) rfl) ?_)
      refine Lw.nil ?_
      refine ⟨?_, m12, Nat.lt_succ_self m12, ⟨y4, y7, w64 (y9 + 1), v5, ptr (bx g30), W47, rfl, (l10.trans ((l30.sub rfl).trans (l34.trans (l47.sub rfl)))), rfl, o49, hm⟩⟩
      iterate 14 (refine Agree.up rfl ?_)
      iterate 4 (refine Agree.up rfl ?_)
      exact Agree.base
  · replace hm := bf hm hc15
    refine Cw.exit ?_
    rw [hK11] at hm
    refine Cw.seq ?_
    refine Cw.region ?_
    refine Lw.r rfl (R.as (v := .slice none 0 0) rfl) (Lw.r rfl (R.as (v := vB false) rfl) ?_)
    refine Lw.nil ?_
    cases hm
    exact Cw.ret (ret2 rfl rfl (Res.mk (a2.trans a13) ⟨.slice none 0 0, rfl, (rdN (K := [0]))⟩))

theorem p70 {W : CW} {K : List Nat} {x0 : List Vm.Memo} {v0_ : Value} {x1 : Vm.Part} {v1_1_ : Value} {v1_2_ : Value} {v1_3_ : Value} {v1_4_ : Value} {r : (List Str) × Bool} (h0 : Rd W K [v0_] x0) (h1 : Rd W K [vB x1.Clash, v1_1_, v1_2_, v1_3_, v1_4_] x1) (hm : Vm.impl_done x0 x1 = some r) : CallR Try.prog 70 [v0_, .agg [vB x1.Clash, v1_1_, v1_2_, v1_3_, v1_4_].toArray].toArray W.w (Res W [] fun W' v => ∃ (u0 : Value), v = .tuple [u0, vB r.2].toArray ∧ Rd W' (0 :: K) [u0] r.1) :=
  (c70 (V := W.view K []) (h0.view _) (h1.view _) hm).ad (fk 0) fun _ _ ⟨u0, e, f0⟩ => ⟨u0, e, f0.back rfl⟩

theorem c30 {V : CW} {x0 : List Vm.Memo} {v0_ : Value} {x1 : List Str} {v1_ : Value} {x2 : List Str} {v2_ : Value} {x3 : List Str} {v3_ : Value} {r : Int} (h0 : Rd V [0] [v0_] x0) (h1 : Rd V [0] [v1_] x1) (h2 : Rd V [0] [v2_] x2) (h3 : Rd V [0] [v3_] x3) (hm : Vm.impl_MemoLeft x0 x1 x2 x3 = some r) : CallR Try.prog 30 [v0_, v1_, v2_, v3_].toArray V.w (Res V LL fun Wf v => v = vI r) := by
  unfold Vm.impl_MemoLeft at hm
  obtain ⟨W0, hW0⟩ : ∃ W, W = V := ⟨V, rfl⟩
  subst hW0
  refine CallR.of Try.func30 rfl rfl rfl rfl ?_
  refine Cw.seq ?_
  refine Cw.region ?_
  refine Lw.r rfl (R.as (v := vI 0) rfl) ?_
  refine Lw.nil ?_
  refine Cw.seq ?_
  obtain ⟨K3, hK3, hm⟩ := jn_e hm
  refine Cw.join 14 23 [23] (fun l w => ∃ (y1 : Bool) (W2 : CW), W2.w = w ∧ Le [] W0 W2 ∧ l = [vB y1] ∧ K3 y1 = some r) ?_ ?_
  · rintro _ _ σ ⟨y1, W2, rfl, l2, rfl, hm⟩
    rw [hK3] at hm
    have a4 : Le LL _ _ := l2.nil
    refine Cw.cond (b := y1) rfl (fun hc5 => ?_) (fun hc5 => ?_)
    · replace hm := bt hm hc5
      refine Cw.seq ?_
      refine Cw.region ?_
      refine Lw.r rfl (R.as (v := vI (-1)) rfl) ?_
      refine Lw.nil ?_
      cases hm
      exact Cw.ret (ret1 rfl (Res.mk a4 rfl))
    · replace hm := bf hm hc5
      refine Cw.skip ?_
      refine Cw.seq ?_
      refine Cw.region ?_
      refine Lw.r rfl (R.as (v := vI 0) rfl) ?_
      refine Lw.nil ?_
      refine Cw.seq ?_
      refine Cw.seq ?_
      refine Cw.region ?_
      refine Lw.r rfl (R.mv (v := v1_) rfl) (Lw.r rfl (R.mv (v := v2_) rfl) (Lw.r rfl (R.mv (v := v3_) rfl) ?_))
      have s6 := h1.ul a4
      have s7 := h2.ul a4
      have s8 := h3.ul a4
      obtain ⟨z9, e10, hm⟩ := ob hm
      refine Lw.t rfl (T.call rfl (p69 (K := [0]) (k0 := 2) s6 s7 s8 e10)) ?_
      rintro v0_11 _ ⟨W11, rfl, l11, ⟨_, rfl, f11_0⟩⟩
      have a12 : Le LL _ _ := l11.nil
      refine Lw.r rfl (lenR (xs := z9) f11_0.rd rfl) (Lw.r rfl (R.mv (v := vI 0) rfl) ?_)
      refine Lw.nil ?_
      refine Cw.block ?_
      obtain ⟨K19, hK19, hm⟩ := jn_e hm
      refine Cw.loop 29 47 [9, 11, 12, 13, 29] (fun m l w => ∃ (y13 : Int) (y17 : Int) (j14 j15 j16 : Value) (W18 : CW), W18.w = w ∧ Le [3] W11 W18 ∧ l = [vI y13, j14, j15, j16, vI y17] ∧ Vm.impl_MemoLeft_l1 x0 z9 K19 m y13 y17 = some r) (((z9.length : Int) - 0).toNat + 1) ⟨0, 0, undef, undef, undef, W11, rfl, Le.refl _ _, rfl, hm⟩ ?_
      rintro m20 _ _ σ ⟨y13, y17, j14, j15, j16, W18, rfl, l18, rfl, hm⟩
      obtain _ | m20 := m20
      · cases hm
      unfold Vm.impl_MemoLeft_l1 at hm
      have a21 : Le LL _ _ := l18.sub rfl
      have o22 := f11_0.up l18 rfl
      refine Cw.seq ?_
      refine Cw.region ?_
      refine Lw.r rfl (R.lt rfl rfl) ?_
      refine Lw.nil ?_
      refine Cw.seq ?_
      refine Cw.cond (b := decide ((y17 : Int) < ((z9.length : Int) : Int))) rfl (fun hc23 => ?_) (fun hc23 => ?_)
      · replace hm := bt hm hc23
        refine Cw.skip ?_
        obtain ⟨K29, hK29, hm⟩ := jn_e hm
        refine Cw.join 31 46 [9, 11, 12, 13] (fun l w => ∃ (y24 : Int) (j25 j26 j27 : Value) (W28 : CW), W28.w = w ∧ Le [3] W18 W28 ∧ l = [vI y24, j25, j26, j27] ∧ K29 y24 = some r) ?_ ?_
        · rintro _ _ σ ⟨y24, j25, j26, j27, W28, rfl, l28, rfl, hm⟩
          rw [hK29] at hm
          have a30 : Le LL _ _ := l28.sub rfl
          have o31 := o22.up l28 rfl
          refine Cw.region ?_
          refine Lw.r rfl (R.add rfl rfl) (Lw.r rfl (R.mv (v := vI (w64 (y17 + 1))) rfl) ?_)
          refine Lw.nil ?_
          refine ⟨?_, m20, Nat.lt_succ_self m20, ⟨y24, w64 (y17 + 1), j25, j26, j27, W28, rfl, (l18.trans l28), rfl, hm⟩⟩
          iterate 2 (refine Agree.up rfl ?_)
          iterate 4 (refine Agree.up rfl ?_)
          refine Agree.ov0 rfl ?_
          iterate 1 (refine Agree.up rfl ?_)
          iterate 5 (refine Agree.up rfl ?_)
          exact Agree.base
        · refine Cw.block ?_
          refine Cw.seq ?_
          refine Cw.region ?_
          obtain ⟨u32, e33, hm⟩ := ob hm
          refine Lw.r rfl (R.ix (α := Part) o22.rd e33 rfl rfl rfl) ?_
          obtain ⟨x34, c35, _, r36⟩ := (o22.rd.at_ e33).cells
          obtain ⟨v37, v39, v41, v43, rfl, r38, r40, r42, r44⟩ := Part.split r36
          refine Lw.r rfl (R.lda c35 rfl rfl) ?_
          refine Lw.t rfl (T.alloc 3 (cs := [vB false, .slice none 0 0, .slice none 0 0, .slice none 0 0, .slice none 0 0]) rfl) ?_
          rintro _ _ ⟨g45, W45, rfl, rfl, l45, b45⟩
          have a46 : Le LL _ _ := l45.nil
          have o47 := o22.up l45 rfl
          refine Lw.u (T.sta (vs := [vB u32.Clash, v37, v39, v41, v43]) b45 rfl rfl (oc_cons rfl (oc_cons r38.oc (oc_cons r40.oc (oc_cons r42.oc (oc_cons r44.oc oc_nil))))) rfl rfl) ?_
          rintro _ _ ⟨W48, rfl, l48, b48⟩
          have a49 : Le LL _ _ := l48.sub rfl
          have o50 := o47.up l48 rfl
          refine Lw.nil ?_
          refine Cw.seq ?_
          refine Cw.region ?_
          refine Lw.r rfl (R.mv (v := v0_) rfl) (Lw.r rfl (R.lda (cs := [vB u32.Clash, v37, v39, v41, v43]) b48.cells rfl rfl) ?_)
          have s51 := h0.ul (a4.trans (a12.trans (a21.trans (a46.trans a49))))
          have s52 := r38.up ((l45.sub (M := [3]) rfl).trans (l48.sub (M := [3]) rfl)) rfl
          have s53 := r40.up ((l45.sub (M := [3]) rfl).trans (l48.sub (M := [3]) rfl)) rfl
          have s54 := r42.up ((l45.sub (M := [3]) rfl).trans (l48.sub (M := [3]) rfl)) rfl
          have s55 := r44.up ((l45.sub (M := [3]) rfl).trans (l48.sub (M := [3]) rfl)) rfl
          obtain ⟨z56, e57, hm⟩ := ob hm
          refine Lw.t rfl (T.call rfl (p70 (K := [0, 2])  (s51.sub (M := [0, 2]) rfl) ((Part.rd (K := [2]) u32.Clash u32.Lines u32.Old u32.One u32.Two s52 s53 s54 s55).sub (M := [0, 2]) rfl) e57)) ?_
          rintro _ _ ⟨W58, rfl, l58, ⟨v0_58, rfl, f58_0⟩⟩
          have s59 := f58_0.sub (M := [0, 2]) rfl
          have a60 : Le LL _ _ := l58.nil
          have o61 := o50.up l58 rfl
          have b62 := b48.up l58 rfl
          refine Lw.r rfl (R.mv (v := .tuple [v0_58, vB z56.2].toArray) rfl) (Lw.r rfl (R.ext (vs := [v0_58, vB z56.2]) (v := v0_58) rfl rfl) (Lw.r rfl (R.ext (vs := [v0_58, vB z56.2]) (v := vB z56.2) rfl rfl) (Lw.r rfl (R.as (v := v0_58) rfl) (Lw.r rfl (R.as (v := vB z56.2) rfl) ?_))))
          refine Lw.nil ?_
          obtain ⟨K65, hK65, hm⟩ := jn_e hm
          refine Cw.join 39 44 [44] (fun l w => ∃ (y63 : Bool) (W64 : CW), W64.w = w ∧ Le [] W58 W64 ∧ l = [vB y63] ∧ K65 y63 = some r) ?_ ?_
          · rintro _ _ σ ⟨y63, W64, rfl, l64, rfl, hm⟩
            rw [hK65] at hm
            have a66 : Le LL _ _ := l64.nil
            have o67 := o61.up l64 rfl
            have b68 := b62.up l64 rfl
            refine Cw.cond (b := y63) rfl (fun hc69 => ?_) (fun hc69 => ?_)
            · replace hm := bt hm hc69
              refine Cw.region ?_
              refine Lw.r rfl (R.mv (v := vI y13) rfl) (Lw.r rfl (R.add rfl rfl) (Lw.r rfl (R.as (v := vI (w64 (y13 + 1))) rfl) ?_))
              refine Lw.nil ?_
              refine ⟨?_, ⟨w64 (y13 + 1), ptr (bx g45), v0_58, vB z56.2, W64, rfl, ((l45.sub rfl).trans (l48.trans ((l58.sub rfl).trans (l64.sub rfl)))), rfl, hm⟩⟩
              iterate 3 (refine Agree.up rfl ?_)
              iterate 1 (refine Agree.up rfl ?_)
              refine Agree.ov0 rfl ?_
              iterate 11 (refine Agree.up rfl ?_)
              exact Agree.refl _
            · replace hm := bf hm hc69
              refine Cw.skip ?_
              refine ⟨?_, ⟨y13, ptr (bx g45), v0_58, vB z56.2, W64, rfl, ((l45.sub rfl).trans (l48.trans ((l58.sub rfl).trans (l64.sub rfl)))), rfl, hm⟩⟩
              iterate 1 (refine Agree.up rfl ?_)
              refine Agree.ov0 rfl ?_
              iterate 11 (refine Agree.up rfl ?_)
              exact Agree.refl _
          · refine Cw.region ?_
            refine Lw.r rfl (R.fa rfl) (Lw.r rfl (R.ld (v := vB u32.Clash) rfl rfl (b62.cell rfl)) (Lw.r rfl (R.mv (v := vB u32.Clash) rfl) ?_))
            refine bsplit u32.Clash (fun hc70 => ?_) (fun hc70 => ?_)
            · replace hm := bt hm hc70
              refine Lw.want' hc70 rfl rfl rfl rfl ?_
              refine Lw.r rfl (R.mv (v := vB z56.2) rfl) ?_
              refine Lw.want' hc70 rfl rfl rfl rfl ?_
              refine Lw.r rfl (R.not rfl) (Lw.r rfl (R.pk hc70 rfl (v := vB (!z56.2)) rfl) ?_)
              refine Lw.nil ?_
              refine ⟨?_, ⟨(!z56.2), W58, rfl, Le.refl _ _, rfl, hm⟩⟩
              iterate 6 (refine Agree.up rfl ?_)
              exact Agree.refl _
            · replace hm := bf hm hc70
              refine Lw.pass' hc70 rfl rfl rfl rfl rfl rfl rfl ?_
              refine Lw.pass' hc70 rfl rfl rfl rfl rfl rfl rfl ?_
              refine Lw.r rfl (R.pk hc70 rfl (v := vB false) rfl) ?_
              refine Lw.nil ?_
              refine ⟨?_, ⟨false, W58, rfl, Le.refl _ _, rfl, hm⟩⟩
              iterate 6 (refine Agree.up rfl ?_)
              exact Agree.refl _
      · replace hm := bf hm hc23
        refine Cw.exit ?_
        rw [hK19] at hm
        refine Cw.seq ?_
        refine Cw.region ?_
        refine Lw.r rfl (R.mv (v := vI y13) rfl) (Lw.r rfl (R.as (v := vI y13) rfl) ?_)
        refine Lw.nil ?_
        cases hm
        exact Cw.ret (ret1 rfl (Res.mk (a4.trans (a12.trans a21)) rfl))
  · refine Cw.region ?_
    refine Lw.r rfl (R.mv (v := v0_) rfl) ?_
    obtain ⟨z71, e72, hm⟩ := ob hm
    refine Lw.t rfl (T.call rfl (p15 (K := [0])  h0 e72)) ?_
    rintro _ _ ⟨W73, rfl, l73, rfl⟩
    have a74 : Le LL _ _ := l73.nil
    refine Lw.r rfl (R.not rfl) (Lw.r rfl (R.mv (v := vB (!z71)) rfl) ?_)
    refine bsplit (!z71) (fun hc75 => ?_) (fun hc75 => ?_)
    · replace hm := bt hm hc75
      refine Lw.pass' hc75 rfl rfl rfl rfl rfl rfl rfl ?_
      refine Lw.pass' hc75 rfl rfl rfl rfl rfl rfl rfl ?_
      refine Lw.pass' hc75 rfl rfl rfl rfl rfl rfl rfl ?_
      refine Lw.pass' hc75 rfl rfl rfl rfl rfl rfl rfl ?_
      refine Lw.pass' hc75 rfl rfl rfl rfl rfl rfl rfl ?_
      refine Lw.r rfl (R.pk hc75 rfl (v := vB true) rfl) ?_
      refine Lw.nil ?_
      refine ⟨?_, ⟨true, W73, rfl, l73, rfl, hm⟩⟩
      iterate 10 (refine Agree.up rfl ?_)
      exact Agree.refl _
    · replace hm := bf hm hc75
      refine Lw.want' hc75 rfl rfl rfl rfl ?_
      refine Lw.r rfl (R.mv (v := v1_) rfl) ?_
      refine Lw.want' hc75 rfl rfl rfl rfl ?_
      refine Lw.r rfl (R.mv (v := v2_) rfl) ?_
      refine Lw.want' hc75 rfl rfl rfl rfl ?_
      refine Lw.r rfl (R.mv (v := v3_) rfl) ?_
      refine Lw.want' hc75 rfl rfl rfl rfl ?_
      have s76 := h1.ul a74
      have s77 := h2.ul a74
      have s78 := h3.ul a74
      obtain ⟨z79, e80, hm⟩ := ob hm
      refine Lw.t rfl (T.call rfl (p54 (K := [0])  s76 s77 s78 e80)) ?_
      rintro _ _ ⟨W81, rfl, l81, rfl⟩
      have a82 : Le LL _ _ := l81.nil
      refine Lw.want' hc75 rfl rfl rfl rfl ?_
      refine Lw.r rfl (R.not rfl) (Lw.r rfl (R.pk hc75 rfl (v := vB (!z79)) rfl) ?_)
      refine Lw.nil ?_
      refine ⟨?_, ⟨(!z79), W81, rfl, (l73.trans l81), rfl, hm⟩⟩
      iterate 10 (refine Agree.up rfl ?_)
      exact Agree.refl _

theorem p30 {W : CW} {K : List Nat} {x0 : List Vm.Memo} {v0_ : Value} {x1 : List Str} {v1_ : Value} {x2 : List Str} {v2_ : Value} {x3 : List Str} {v3_ : Value} {r : Int} (h0 : Rd W K [v0_] x0) (h1 : Rd W K [v1_] x1) (h2 : Rd W K [v2_] x2) (h3 : Rd W K [v3_] x3) (hm : Vm.impl_MemoLeft x0 x1 x2 x3 = some r) : CallR Try.prog 30 [v0_, v1_, v2_, v3_].toArray W.w (Res W [] fun W' v => v = vI r) :=
  (c30 (V := W.view K []) (h0.view _) (h1.view _) (h2.view _) (h3.view _) hm).ad (fk 0) fun _ _ e => e

theorem c6 {V : CW} {x0 : List Vm.Memo} {v0_ : Value} {x1 : List Str} {v1_ : Value} {x2 : List Str} {v2_ : Value} {x3 : List Str} {v3_ : Value} {r : Bool} (h0 : Rd V [0] [v0_] x0) (h1 : Rd V [0] [v1_] x1) (h2 : Rd V [0] [v2_] x2) (h3 : Rd V [0] [v3_] x3) (hm : Vm.laws_FnExactMemoLeft x0 x1 x2 x3 = some r) : CallR Try.prog 6 [v0_, v1_, v2_, v3_].toArray V.w (Res V LL fun Wf v => v = vB r) := by
  unfold Vm.laws_FnExactMemoLeft at hm
  obtain ⟨W0, hW0⟩ : ∃ W, W = V := ⟨V, rfl⟩
  subst hW0
  refine CallR.of Try.func6 rfl rfl rfl rfl ?_
  refine Cw.seq ?_
  refine Cw.region ?_
  refine Lw.r rfl (R.as (v := vB false) rfl) ?_
  refine Lw.nil ?_
  refine Cw.seq ?_
  refine Cw.region ?_
  refine Lw.r rfl (R.as (v := vI 1048576) rfl) ?_
  refine Lw.nil ?_
  refine Cw.seq ?_
  refine Cw.region ?_
  refine Lw.r rfl (R.mv (v := v0_) rfl) (Lw.r rfl (R.mv (v := vI 1048576) rfl) ?_)
  obtain ⟨z1, e2, hm⟩ := ob hm
  refine Lw.t rfl (T.call rfl (p12 (K := [0])  h0 e2)) ?_
  rintro _ _ ⟨W3, rfl, l3, rfl⟩
  have a4 : Le LL _ _ := l3.nil
  refine Lw.r rfl (R.as (v := vI z1) rfl) ?_
  refine Lw.nil ?_
  refine Cw.seq ?_
  refine Cw.seq ?_
  refine Cw.region ?_
  refine Lw.r rfl (R.mv (v := vI z1) rfl) (Lw.r rfl (R.lt rfl rfl) ?_)
  refine Lw.nil ?_
  refine Cw.cond (b := decide ((z1 : Int) < (0 : Int))) rfl (fun hc5 => ?_) (fun hc5 => ?_)
  · replace hm := bt hm hc5
    refine Cw.seq ?_
    refine Cw.region ?_
    refine Lw.r rfl (R.as (v := vB true) rfl) ?_
    refine Lw.nil ?_
    cases hm
    exact Cw.ret (ret1 rfl (Res.mk a4 rfl))
  · replace hm := bf hm hc5
    refine Cw.skip ?_
    refine Cw.seq ?_
    refine Cw.region ?_
    refine Lw.r rfl (R.mv (v := v1_) rfl) (Lw.r rfl (R.mv (v := vI z1) rfl) ?_)
    have s6 := h1.ul a4
    obtain ⟨z7, e8, hm⟩ := ob hm
    refine Lw.t rfl (T.call rfl (p27 (K := [0])  s6 e8)) ?_
    rintro _ _ ⟨W9, rfl, l9, rfl⟩
    have a10 : Le LL _ _ := l9.nil
    refine Lw.r rfl (R.as (v := vI z7) rfl) ?_
    refine Lw.nil ?_
    refine Cw.seq ?_
    refine Cw.seq ?_
    refine Cw.region ?_
    refine Lw.r rfl (R.mv (v := vI z7) rfl) (Lw.r rfl (R.lt rfl rfl) ?_)
    refine Lw.nil ?_
    refine Cw.cond (b := decide ((z7 : Int) < (0 : Int))) rfl (fun hc11 => ?_) (fun hc11 => ?_)
    · replace hm := bt hm hc11
      refine Cw.seq ?_
      refine Cw.region ?_
      refine Lw.r rfl (R.as (v := vB true) rfl) ?_
      refine Lw.nil ?_
      cases hm
      exact Cw.ret (ret1 rfl (Res.mk (a4.trans a10) rfl))
    · replace hm := bf hm hc11
      refine Cw.skip ?_
      refine Cw.seq ?_
      refine Cw.region ?_
      refine Lw.r rfl (R.mv (v := v2_) rfl) (Lw.r rfl (R.mv (v := vI z7) rfl) ?_)
      have s12 := h2.ul (a4.trans a10)
      obtain ⟨z13, e14, hm⟩ := ob hm
      refine Lw.t rfl (T.call rfl (p27 (K := [0])  s12 e14)) ?_
      rintro _ _ ⟨W15, rfl, l15, rfl⟩
      have a16 : Le LL _ _ := l15.nil
      refine Lw.r rfl (R.as (v := vI z13) rfl) ?_
      refine Lw.nil ?_
      refine Cw.seq ?_
      refine Cw.seq ?_
      refine Cw.region ?_
      refine Lw.r rfl (R.mv (v := vI z13) rfl) (Lw.r rfl (R.lt rfl rfl) ?_)
      refine Lw.nil ?_
      refine Cw.cond (b := decide ((z13 : Int) < (0 : Int))) rfl (fun hc17 => ?_) (fun hc17 => ?_)
      · replace hm := bt hm hc17
        refine Cw.seq ?_
        refine Cw.region ?_
        refine Lw.r rfl (R.as (v := vB true) rfl) ?_
        refine Lw.nil ?_
        cases hm
        exact Cw.ret (ret1 rfl (Res.mk (a4.trans (a10.trans a16)) rfl))
      · replace hm := bf hm hc17
        refine Cw.skip ?_
        refine Cw.seq ?_
        refine Cw.region ?_
        refine Lw.r rfl (R.mv (v := v3_) rfl) (Lw.r rfl (R.mv (v := vI z13) rfl) ?_)
        have s18 := h3.ul (a4.trans (a10.trans a16))
        obtain ⟨z19, e20, hm⟩ := ob hm
        refine Lw.t rfl (T.call rfl (p27 (K := [0])  s18 e20)) ?_
        rintro _ _ ⟨W21, rfl, l21, rfl⟩
        have a22 : Le LL _ _ := l21.nil
        refine Lw.r rfl (R.as (v := vI z19) rfl) ?_
        refine Lw.nil ?_
        refine Cw.seq ?_
        refine Cw.seq ?_
        refine Cw.region ?_
        refine Lw.r rfl (R.mv (v := vI z19) rfl) (Lw.r rfl (R.lt rfl rfl) ?_)
        refine Lw.nil ?_
        refine Cw.cond (b := decide ((z19 : Int) < (0 : Int))) rfl (fun hc23 => ?_) (fun hc23 => ?_)
        · replace hm := bt hm hc23
          refine Cw.seq ?_
          refine Cw.region ?_
          refine Lw.r rfl (R.as (v := vB true) rfl) ?_
          refine Lw.nil ?_
          cases hm
          exact Cw.ret (ret1 rfl (Res.mk (a4.trans (a10.trans (a16.trans a22))) rfl))
        · replace hm := bf hm hc23
          refine Cw.skip ?_
          refine Cw.seq ?_
          refine Cw.region ?_
          refine Lw.r rfl (R.mv (v := v0_) rfl) ?_
          have s24 := h0.ul (a4.trans (a10.trans (a16.trans a22)))
          obtain ⟨z25, e26, hm⟩ := ob hm
          refine Lw.t rfl (T.call rfl (p14 (K := [0]) (k0 := 2) s24 e26)) ?_
          rintro v0_27 _ ⟨W27, rfl, l27, ⟨_, rfl, f27_0⟩⟩
          have a28 : Le LL _ _ := l27.nil
          refine Lw.r rfl (R.mv (v := v1_) rfl) ?_
          have s29 := h1.ul (a4.trans (a10.trans (a16.trans (a22.trans a28))))
          obtain ⟨z30, e31, hm⟩ := ob hm
          refine Lw.t rfl (T.call rfl (p29 (K := [0]) (k0 := 3) s29 e31)) ?_
          rintro v0_32 _ ⟨W32, rfl, l32, ⟨_, rfl, f32_0⟩⟩
          have a33 : Le LL _ _ := l32.nil
          have o34 := f27_0.up l32 rfl
          refine Lw.r rfl (R.mv (v := v2_) rfl) ?_
          have s35 := h2.ul (a4.trans (a10.trans (a16.trans (a22.trans (a28.trans a33)))))
          obtain ⟨z36, e37, hm⟩ := ob hm
          refine Lw.t rfl (T.call rfl (p29 (K := [0]) (k0 := 4) s35 e37)) ?_
          rintro v0_38 _ ⟨W38, rfl, l38, ⟨_, rfl, f38_0⟩⟩
          have a39 : Le LL _ _ := l38.nil
          have o40 := o34.up l38 rfl
          have o41 := f32_0.up l38 rfl
          refine Lw.r rfl (R.mv (v := v3_) rfl) ?_
          have s42 := h3.ul (a4.trans (a10.trans (a16.trans (a22.trans (a28.trans (a33.trans a39))))))
          obtain ⟨z43, e44, hm⟩ := ob hm
          refine Lw.t rfl (T.call rfl (p29 (K := [0]) (k0 := 5) s42 e44)) ?_
          rintro v0_45 _ ⟨W45, rfl, l45, ⟨_, rfl, f45_0⟩⟩
          have a46 : Le LL _ _ := l45.nil
          have o47 := o40.up l45 rfl
          have o48 := o41.up l45 rfl
          have o49 := f38_0.up l45 rfl
          obtain ⟨z50, e51, hm⟩ := ob hm
          refine Lw.t rfl (T.call rfl (p28 (K := [2, 3, 4, 5])  (o47.rd.sub (M := [2, 3, 4, 5]) rfl) (o48.rd.sub (M := [2, 3, 4, 5]) rfl) (o49.rd.sub (M := [2, 3, 4, 5]) rfl) (f45_0.rd.sub (M := [2, 3, 4, 5]) rfl) e51)) ?_
          rintro _ _ ⟨W52, rfl, l52, rfl⟩
          have a53 : Le LL _ _ := l52.nil
          have o54 := o47.up l52 rfl
          have o55 := o48.up l52 rfl
          have o56 := o49.up l52 rfl
          have o57 := f45_0.up l52 rfl
          refine Lw.r rfl (R.as (v := vI z50) rfl) ?_
          refine Lw.nil ?_
          refine Cw.seq ?_
          refine Cw.region ?_
          refine Lw.r rfl (R.mv (v := v0_) rfl) ?_
          have s58 := h0.ul (a4.trans (a10.trans (a16.trans (a22.trans (a28.trans (a33.trans (a39.trans (a46.trans a53))))))))
          obtain ⟨z59, e60, hm⟩ := ob hm
          refine Lw.t rfl (T.call rfl (p14 (K := [0]) (k0 := 6) s58 e60)) ?_
          rintro v0_61 _ ⟨W61, rfl, l61, ⟨_, rfl, f61_0⟩⟩
          have a62 : Le LL _ _ := l61.nil
          have o63 := o54.up l61 rfl
          have o64 := o55.up l61 rfl
          have o65 := o56.up l61 rfl
          have o66 := o57.up l61 rfl
          refine Lw.r rfl (R.as (v := v0_61) rfl) ?_
          refine Lw.nil ?_
          refine Cw.seq ?_
          refine Cw.region ?_
          refine Lw.r rfl (R.mv (v := v1_) rfl) ?_
          have s67 := h1.ul (a4.trans (a10.trans (a16.trans (a22.trans (a28.trans (a33.trans (a39.trans (a46.trans (a53.trans a62)))))))))
          obtain ⟨z68, e69, hm⟩ := ob hm
          refine Lw.t rfl (T.call rfl (p29 (K := [0]) (k0 := 7) s67 e69)) ?_
          rintro v0_70 _ ⟨W70, rfl, l70, ⟨_, rfl, f70_0⟩⟩
          have a71 : Le LL _ _ := l70.nil
          have o72 := o63.up l70 rfl
          have o73 := o64.up l70 rfl
          have o74 := o65.up l70 rfl
          have o75 := o66.up l70 rfl
          have o76 := f61_0.up l70 rfl
          refine Lw.r rfl (R.as (v := v0_70) rfl) ?_
          refine Lw.nil ?_
          refine Cw.seq ?_
          refine Cw.region ?_
          refine Lw.r rfl (R.mv (v := v2_) rfl) ?_
          have s77 := h2.ul (a4.trans (a10.trans (a16.trans (a22.trans (a28.trans (a33.trans (a39.trans (a46.trans (a53.trans (a62.trans a71))))))))))
          obtain ⟨z78, e79, hm⟩ := ob hm
          refine Lw.t rfl (T.call rfl (p29 (K := [0]) (k0 := 8) s77 e79)) ?_
          rintro v0_80 _ ⟨W80, rfl, l80, ⟨_, rfl, f80_0⟩⟩
          have a81 : Le LL _ _ := l80.nil
          have o82 := o72.up l80 rfl
          have o83 := o73.up l80 rfl
          have o84 := o74.up l80 rfl
          have o85 := o75.up l80 rfl
          have o86 := o76.up l80 rfl
          have o87 := f70_0.up l80 rfl
          refine Lw.r rfl (R.as (v := v0_80) rfl) ?_
          refine Lw.nil ?_
          refine Cw.seq ?_
          refine Cw.region ?_
          refine Lw.r rfl (R.mv (v := v3_) rfl) ?_
          have s88 := h3.ul (a4.trans (a10.trans (a16.trans (a22.trans (a28.trans (a33.trans (a39.trans (a46.trans (a53.trans (a62.trans (a71.trans a81)))))))))))
          obtain ⟨z89, e90, hm⟩ := ob hm
          refine Lw.t rfl (T.call rfl (p29 (K := [0]) (k0 := 9) s88 e90)) ?_
          rintro v0_91 _ ⟨W91, rfl, l91, ⟨_, rfl, f91_0⟩⟩
          have a92 : Le LL _ _ := l91.nil
          have o93 := o82.up l91 rfl
          have o94 := o83.up l91 rfl
          have o95 := o84.up l91 rfl
          have o96 := o85.up l91 rfl
          have o97 := o86.up l91 rfl
          have o98 := o87.up l91 rfl
          have o99 := f80_0.up l91 rfl
          refine Lw.r rfl (R.as (v := v0_91) rfl) ?_
          refine Lw.nil ?_
          refine Cw.seq ?_
          refine Cw.region ?_
          refine Lw.r rfl (R.mv (v := v0_61) rfl) (Lw.r rfl (R.mv (v := v0_70) rfl) (Lw.r rfl (R.mv (v := v0_80) rfl) (Lw.r rfl (R.mv (v := v0_91) rfl) ?_)))
          obtain ⟨z100, e101, hm⟩ := ob hm
          refine Lw.t rfl (T.call rfl (p30 (K := [6, 7, 8, 9])  (o97.rd.sub (M := [6, 7, 8, 9]) rfl) (o98.rd.sub (M := [6, 7, 8, 9]) rfl) (o99.rd.sub (M := [6, 7, 8, 9]) rfl) (f91_0.rd.sub (M := [6, 7, 8, 9]) rfl) e101)) ?_
          rintro _ _ ⟨W102, rfl, l102, rfl⟩
          have a103 : Le LL _ _ := l102.nil
          have o104 := o93.up l102 rfl
          have o105 := o94.up l102 rfl
          have o106 := o95.up l102 rfl
          have o107 := o96.up l102 rfl
          have o108 := o97.up l102 rfl
          have o109 := o98.up l102 rfl
          have o110 := o99.up l102 rfl
          have o111 := f91_0.up l102 rfl
          refine Lw.r rfl (R.as (v := vI z100) rfl) ?_
          refine Lw.nil ?_
          refine Cw.seq ?_
          refine Cw.seq ?_
          refine Cw.region ?_
          refine Lw.r rfl (R.mv (v := vI z100) rfl) (Lw.r rfl (R.mv (v := vI z50) rfl) (Lw.r rfl (R.ne rfl rfl) ?_))
          refine Lw.nil ?_
          refine Cw.cond (b := ((z100 : Int) != (z50 : Int))) rfl (fun hc112 => ?_) (fun hc112 => ?_)
          · replace hm := bt hm hc112
            refine Cw.seq ?_
            refine Cw.region ?_
            refine Lw.r rfl (R.as (v := vB false) rfl) ?_
            refine Lw.nil ?_
            cases hm
            exact Cw.ret (ret1 rfl (Res.mk (a4.trans (a10.trans (a16.trans (a22.trans (a28.trans (a33.trans (a39.trans (a46.trans (a53.trans (a62.trans (a71.trans (a81.trans (a92.trans a103))))))))))))) rfl))
          · replace hm := bf hm hc112
            refine Cw.skip ?_
            refine Cw.seq ?_
            refine Cw.seq ?_
            refine Cw.region ?_
            refine Lw.r rfl (R.mv (v := v0_61) rfl) (Lw.r rfl (R.mv (v := v0_) rfl) ?_)
            have s113 := h0.ul (a4.trans (a10.trans (a16.trans (a22.trans (a28.trans (a33.trans (a39.trans (a46.trans (a53.trans (a62.trans (a71.trans (a81.trans (a92.trans a103)))))))))))))
            obtain ⟨z114, e115, hm⟩ := ob hm
            refine Lw.t rfl (T.call rfl (p14 (K := [0]) (k0 := 10) s113 e115)) ?_
            rintro v0_116 _ ⟨W116, rfl, l116, ⟨_, rfl, f116_0⟩⟩
            have a117 : Le LL _ _ := l116.nil
            have o118 := o104.up l116 rfl
            have o119 := o105.up l116 rfl
            have o120 := o106.up l116 rfl
            have o121 := o107.up l116 rfl
            have o122 := o108.up l116 rfl
            have o123 := o109.up l116 rfl
            have o124 := o110.up l116 rfl
            have o125 := o111.up l116 rfl
            obtain ⟨z126, e127, hm⟩ := ob hm
            refine Lw.t rfl (T.call rfl (p16 (K := [6, 10])  (o122.rd.sub (M := [6, 10]) rfl) (f116_0.rd.sub (M := [6, 10]) rfl) e127)) ?_
            rintro _ _ ⟨W128, rfl, l128, rfl⟩
            have a129 : Le LL _ _ := l128.nil
            have o130 := o118.up l128 rfl
            have o131 := o119.up l128 rfl
            have o132 := o120.up l128 rfl
            have o133 := o121.up l128 rfl
            have o134 := o122.up l128 rfl
            have o135 := o123.up l128 rfl
            have o136 := o124.up l128 rfl
            have o137 := o125.up l128 rfl
            have o138 := f116_0.up l128 rfl
            refine Lw.r rfl (R.not rfl) ?_
            refine Lw.nil ?_
            refine Cw.cond (b := (!z126)) rfl (fun hc139 => ?_) (fun hc139 => ?_)
            · replace hm := bt hm hc139
              refine Cw.seq ?_
              refine Cw.region ?_
              refine Lw.r rfl (R.as (v := vB false) rfl) ?_
              refine Lw.nil ?_
              cases hm
              exact Cw.ret (ret1 rfl (Res.mk (a4.trans (a10.trans (a16.trans (a22.trans (a28.trans (a33.trans (a39.trans (a46.trans (a53.trans (a62.trans (a71.trans (a81.trans (a92.trans (a103.trans (a117.trans a129))))))))))))))) rfl))
            · replace hm := bf hm hc139
              refine Cw.skip ?_
              refine Cw.seq ?_
              refine Cw.seq ?_
              refine Cw.region ?_
              refine Lw.r rfl (R.mv (v := v0_70) rfl) (Lw.r rfl (R.mv (v := v1_) rfl) ?_)
              have s140 := h1.ul (a4.trans (a10.trans (a16.trans (a22.trans (a28.trans (a33.trans (a39.trans (a46.trans (a53.trans (a62.trans (a71.trans (a81.trans (a92.trans (a103.trans (a117.trans a129)))))))))))))))
              obtain ⟨z141, e142, hm⟩ := ob hm
              refine Lw.t rfl (T.call rfl (p29 (K := [0]) (k0 := 11) s140 e142)) ?_
              rintro v0_143 _ ⟨W143, rfl, l143, ⟨_, rfl, f143_0⟩⟩
              have a144 : Le LL _ _ := l143.nil
              have o145 := o130.up l143 rfl
              have o146 := o131.up l143 rfl
              have o147 := o132.up l143 rfl
              have o148 := o133.up l143 rfl
              have o149 := o134.up l143 rfl
              have o150 := o135.up l143 rfl
              have o151 := o136.up l143 rfl
              have o152 := o137.up l143 rfl
              have o153 := o138.up l143 rfl
              obtain ⟨z154, e155, hm⟩ := ob hm
              refine Lw.t rfl (T.call rfl (p31 (K := [7, 11])  (o150.rd.sub (M := [7, 11]) rfl) (f143_0.rd.sub (M := [7, 11]) rfl) e155)) ?_
              rintro _ _ ⟨W156, rfl, l156, rfl⟩
              have a157 : Le LL _ _ := l156.nil
              have o158 := o145.up l156 rfl
              have o159 := o146.up l156 rfl
              have o160 := o147.up l156 rfl
              have o161 := o148.up l156 rfl
              have o162 := o149.up l156 rfl
              have o163 := o150.up l156 rfl
              have o164 := o151.up l156 rfl
              have o165 := o152.up l156 rfl
              have o166 := o153.up l156 rfl
              have o167 := f143_0.up l156 rfl
              refine Lw.r rfl (R.not rfl) ?_
              refine Lw.nil ?_
              refine Cw.cond (b := (!z154)) rfl (fun hc168 => ?_) (fun hc168 => ?_)
              · replace hm := bt hm hc168
                refine Cw.seq ?_
                refine Cw.region ?_
                refine Lw.r rfl (R.as (v := vB false) rfl) ?_
                refine Lw.nil ?_
                cases hm
                exact Cw.ret (ret1 rfl (Res.mk (a4.trans (a10.trans (a16.trans (a22.trans (a28.trans (a33.trans (a39.trans (a46.trans (a53.trans (a62.trans (a71.trans (a81.trans (a92.trans (a103.trans (a117.trans (a129.trans (a144.trans a157))))))))))))))))) rfl))
              · replace hm := bf hm hc168
                refine Cw.skip ?_
                refine Cw.seq ?_
                refine Cw.seq ?_
                refine Cw.region ?_
                refine Lw.r rfl (R.mv (v := v0_80) rfl) (Lw.r rfl (R.mv (v := v2_) rfl) ?_)
                have s169 := h2.ul (a4.trans (a10.trans (a16.trans (a22.trans (a28.trans (a33.trans (a39.trans (a46.trans (a53.trans (a62.trans (a71.trans (a81.trans (a92.trans (a103.trans (a117.trans (a129.trans (a144.trans a157)))))))))))))))))
                obtain ⟨z170, e171, hm⟩ := ob hm
                refine Lw.t rfl (T.call rfl (p29 (K := [0]) (k0 := 12) s169 e171)) ?_
                rintro v0_172 _ ⟨W172, rfl, l172, ⟨_, rfl, f172_0⟩⟩
                have a173 : Le LL _ _ := l172.nil
                have o174 := o158.up l172 rfl
                have o175 := o159.up l172 rfl
                have o176 := o160.up l172 rfl
                have o177 := o161.up l172 rfl
                have o178 := o162.up l172 rfl
                have o179 := o163.up l172 rfl
                have o180 := o164.up l172 rfl
                have o181 := o165.up l172 rfl
                have o182 := o166.up l172 rfl
                have o183 := o167.up l172 rfl
                obtain ⟨z184, e185, hm⟩ := ob hm
                refine Lw.t rfl (T.call rfl (p31 (K := [8, 12])  (o180.rd.sub (M := [8, 12]) rfl) (f172_0.rd.sub (M := [8, 12]) rfl) e185)) ?_
                rintro _ _ ⟨W186, rfl, l186, rfl⟩
                have a187 : Le LL _ _ := l186.nil
                have o188 := o174.up l186 rfl
                have o189 := o175.up l186 rfl
                have o190 := o176.up l186 rfl
                have o191 := o177.up l186 rfl
                have o192 := o178.up l186 rfl
                have o193 := o179.up l186 rfl
                have o194 := o180.up l186 rfl
                have o195 := o181.up l186 rfl
                have o196 := o182.up l186 rfl
                have o197 := o183.up l186 rfl
                have o198 := f172_0.up l186 rfl
                refine Lw.r rfl (R.not rfl) ?_
                refine Lw.nil ?_
                refine Cw.cond (b := (!z184)) rfl (fun hc199 => ?_) (fun hc199 => ?_)
                · replace hm := bt hm hc199
                  refine Cw.seq ?_
                  refine Cw.region ?_
                  refine Lw.r rfl (R.as (v := vB false) rfl) ?_
                  refine Lw.nil ?_
                  cases hm
                  exact Cw.ret (ret1 rfl (Res.mk (a4.trans (a10.trans (a16.trans (a22.trans (a28.trans (a33.trans (a39.trans (a46.trans (a53.trans (a62.trans (a71.trans (a81.trans (a92.trans (a103.trans (a117.trans (a129.trans (a144.trans (a157.trans (a173.trans a187))))))))))))))))))) rfl))
                · replace hm := bf hm hc199
                  refine Cw.skip ?_
                  refine Cw.seq ?_
                  refine Cw.seq ?_
                  refine Cw.region ?_
                  refine Lw.r rfl (R.mv (v := v0_91) rfl) (Lw.r rfl (R.mv (v := v3_) rfl) ?_)
                  have s200 := h3.ul (a4.trans (a10.trans (a16.trans (a22.trans (a28.trans (a33.trans (a39.trans (a46.trans (a53.trans (a62.trans (a71.trans (a81.trans (a92.trans (a103.trans (a117.trans (a129.trans (a144.trans (a157.trans (a173.trans a187)))))))))))))))))))
                  obtain ⟨z201, e202, hm⟩ := ob hm
                  refine Lw.t rfl (T.call rfl (p29 (K := [0]) (k0 := 13) s200 e202)) ?_
                  rintro v0_203 _ ⟨W203, rfl, l203, ⟨_, rfl, f203_0⟩⟩
                  have a204 : Le LL _ _ := l203.nil
                  have o205 := o188.up l203 rfl
                  have o206 := o189.up l203 rfl
                  have o207 := o190.up l203 rfl
                  have o208 := o191.up l203 rfl
                  have o209 := o192.up l203 rfl
                  have o210 := o193.up l203 rfl
                  have o211 := o194.up l203 rfl
                  have o212 := o195.up l203 rfl
                  have o213 := o196.up l203 rfl
                  have o214 := o197.up l203 rfl
                  have o215 := o198.up l203 rfl
                  obtain ⟨z216, e217, hm⟩ := ob hm
                  refine Lw.t rfl (T.call rfl (p31 (K := [9, 13])  (o212.rd.sub (M := [9, 13]) rfl) (f203_0.rd.sub (M := [9, 13]) rfl) e217)) ?_
                  rintro _ _ ⟨W218, rfl, l218, rfl⟩
                  have a219 : Le LL _ _ := l218.nil
                  have o220 := o205.up l218 rfl
                  have o221 := o206.up l218 rfl
                  have o222 := o207.up l218 rfl
                  have o223 := o208.up l218 rfl
                  have o224 := o209.up l218 rfl
                  have o225 := o210.up l218 rfl
                  have o226 := o211.up l218 rfl
                  have o227 := o212.up l218 rfl
                  have o228 := o213.up l218 rfl
                  have o229 := o214.up l218 rfl
                  have o230 := o215.up l218 rfl
                  have o231 := f203_0.up l218 rfl
                  refine Lw.r rfl (R.not rfl) ?_
                  refine Lw.nil ?_
                  refine Cw.cond (b := (!z216)) rfl (fun hc232 => ?_) (fun hc232 => ?_)
                  · replace hm := bt hm hc232
                    refine Cw.seq ?_
                    refine Cw.region ?_
                    refine Lw.r rfl (R.as (v := vB false) rfl) ?_
                    refine Lw.nil ?_
                    cases hm
                    exact Cw.ret (ret1 rfl (Res.mk (a4.trans (a10.trans (a16.trans (a22.trans (a28.trans (a33.trans (a39.trans (a46.trans (a53.trans (a62.trans (a71.trans (a81.trans (a92.trans (a103.trans (a117.trans (a129.trans (a144.trans (a157.trans (a173.trans (a187.trans (a204.trans a219))))))))))))))))))))) rfl))
                  · replace hm := bf hm hc232
                    refine Cw.skip ?_
                    refine Cw.seq ?_
                    refine Cw.region ?_
                    refine Lw.r rfl (R.as (v := vB true) rfl) ?_
                    refine Lw.nil ?_
                    cases hm
                    exact Cw.ret (ret1 rfl (Res.mk (a4.trans (a10.trans (a16.trans (a22.trans (a28.trans (a33.trans (a39.trans (a46.trans (a53.trans (a62.trans (a71.trans (a81.trans (a92.trans (a103.trans (a117.trans (a129.trans (a144.trans (a157.trans (a173.trans (a187.trans (a204.trans a219))))))))))))))))))))) rfl))

theorem p6 {W : CW} {K : List Nat} {x0 : List Vm.Memo} {v0_ : Value} {x1 : List Str} {v1_ : Value} {x2 : List Str} {v2_ : Value} {x3 : List Str} {v3_ : Value} {r : Bool} (h0 : Rd W K [v0_] x0) (h1 : Rd W K [v1_] x1) (h2 : Rd W K [v2_] x2) (h3 : Rd W K [v3_] x3) (hm : Vm.laws_FnExactMemoLeft x0 x1 x2 x3 = some r) : CallR Try.prog 6 [v0_, v1_, v2_, v3_].toArray W.w (Res W [] fun W' v => v = vB r) :=
  (c6 (V := W.view K []) (h0.view _) (h1.view _) (h2.view _) (h3.view _) hm).ad (fk 0) fun _ _ e => e

theorem c106 {V : CW} {x0 : Vm.l30Rd} {g0_ : Nat} {v0_0_ : Value} {x1 : List Int} {v1_ : Value} {r : Int × Int} (hB0 : Bx V 2 g0_ [v0_0_, vI x0.p]) (h0_0 : Rd V [0] [v0_0_] x0.b) (h1 : Rd V [0] [v1_] x1) (hm : Vm.spec_l30Rd_one x0 x1 = some r) : CallR Try.prog 106 [ptr (bx g0_), v1_].toArray V.w (Res V LL fun Wf v => v = vI r.1 ∧ Bx Wf 2 g0_ [v0_0_, vI r.2]) := by
  unfold Vm.spec_l30Rd_one at hm
  obtain ⟨W0, hW0⟩ : ∃ W, W = V := ⟨V, rfl⟩
  subst hW0
  refine CallR.of Try.func106 rfl rfl rfl rfl ?_
  refine Cw.seq ?_
  refine Cw.region ?_
  refine Lw.r rfl (R.as (v := vI 0) rfl) ?_
  refine Lw.nil ?_
  refine Cw.seq ?_
  refine Cw.region ?_
  refine Lw.r rfl (R.mv (v := v1_) rfl) (Lw.r rfl (R.mv (v := ptr (bx g0_)) rfl) (Lw.r rfl (R.mv (v := v1_) rfl) (Lw.r rfl (lenR (xs := x1) h1 rfl) ?_)))
  obtain ⟨z1, e2, hm⟩ := ob hm
  refine Lw.t rfl (T.call rfl (p79 (K := [0])  (c0 := 2) (x0 := x0) hB0 h0_0 rfl e2)) ?_
  rintro _ _ ⟨W3, rfl, l3, ⟨rfl, f3_0⟩⟩
  have a4 : Le LL _ _ := l3.sub rfl
  obtain ⟨u5, e6, hm⟩ := ob hm
  have s7 := h1.ul a4
  refine Lw.r rfl (R.ix (α := Int) s7 e6 rfl rfl rfl) (Lw.r rfl (R.ld rfl rfl (s7.at_ e6).int) (Lw.r rfl (R.as (v := vI u5) rfl) ?_))
  refine Lw.nil ?_
  cases hm
  exact Cw.ret (ret1 rfl (Res.mk a4 ⟨rfl, f3_0⟩))

theorem p106 {W : CW} {K : List Nat} {x0 : Vm.l30Rd} {g0_ : Nat} {v0_0_ : Value} {x1 : List Int} {v1_ : Value} {c0 : Nat} {r : Int × Int} (hB0 : Bx W c0 g0_ [v0_0_, vI x0.p]) (h0_0 : Rd W K [v0_0_] x0.b) (h1 : Rd W K [v1_] x1) (hJ : okJ K [c0] = true) (hm : Vm.spec_l30Rd_one x0 x1 = some r) : CallR Try.prog 106 [ptr (bx g0_), v1_].toArray W.w (Res W [c0] fun W' v => v = vI r.1 ∧ Bx W' c0 g0_ [v0_0_, vI r.2]) :=
  CallR.adJ (J := [c0]) (fun c => bif Nat.beq c 0 then 0 else bif Nat.beq c 2 then c0 else 0) (c106 (V := W.view K [c0]) (hB0.viewJ 0 hJ) (h0_0.view _) (h1.view _) hm) fun _ _ ⟨e, f0⟩ => ⟨e, Bx.backJ 0 f0 rfl⟩

theorem c83 {V : CW} {x0 : Vm.l30Rd} {g0_ : Nat} {v0_0_ : Value} {x1 : List Str} {v1_ : Value} {r : Str × Int} (hB0 : Bx V 2 g0_ [v0_0_, vI x0.p]) (h0_0 : Rd V [0] [v0_0_] x0.b) (h1 : Rd V [0] [v1_] x1) (hm : Vm.spec_l30Rd_of x0 x1 = some r) : CallR Try.prog 83 [ptr (bx g0_), v1_].toArray V.w (Res V LL fun Wf v => v = vS r.1 ∧ Bx Wf 2 g0_ [v0_0_, vI r.2]) := by
  unfold Vm.spec_l30Rd_of at hm
  obtain ⟨W0, hW0⟩ : ∃ W, W = V := ⟨V, rfl⟩
  subst hW0
  refine CallR.of Try.func83 rfl rfl rfl rfl ?_
  refine Cw.seq ?_
  refine Cw.region ?_
  refine Lw.r rfl (R.as (v := vS ([] : Str)) rfl) ?_
  refine Lw.nil ?_
  refine Cw.seq ?_
  refine Cw.region ?_
  refine Lw.r rfl (R.mv (v := v1_) rfl) (Lw.r rfl (R.mv (v := ptr (bx g0_)) rfl) (Lw.r rfl (R.mv (v := v1_) rfl) (Lw.r rfl (lenR (xs := x1) h1 rfl) ?_)))
  obtain ⟨z1, e2, hm⟩ := ob hm
  refine Lw.t rfl (T.call rfl (p79 (K := [0])  (c0 := 2) (x0 := x0) hB0 h0_0 rfl e2)) ?_
  rintro _ _ ⟨W3, rfl, l3, ⟨rfl, f3_0⟩⟩
  have a4 : Le LL _ _ := l3.sub rfl
  obtain ⟨u5, e6, hm⟩ := ob hm
  have s7 := h1.ul a4
  refine Lw.r rfl (R.ix (α := Str) s7 e6 rfl rfl rfl) (Lw.r rfl (R.ld rfl rfl (s7.at_ e6).str) (Lw.r rfl (R.as (v := vS u5) rfl) ?_))
  refine Lw.nil ?_
  cases hm
  exact Cw.ret (ret1 rfl (Res.mk a4 ⟨rfl, f3_0⟩))

theorem p83 {W : CW} {K : List Nat} {x0 : Vm.l30Rd} {g0_ : Nat} {v0_0_ : Value} {x1 : List Str} {v1_ : Value} {c0 : Nat} {r : Str × Int} (hB0 : Bx W c0 g0_ [v0_0_, vI x0.p]) (h0_0 : Rd W K [v0_0_] x0.b) (h1 : Rd W K [v1_] x1) (hJ : okJ K [c0] = true) (hm : Vm.spec_l30Rd_of x0 x1 = some r) : CallR Try.prog 83 [ptr (bx g0_), v1_].toArray W.w (Res W [c0] fun W' v => v = vS r.1 ∧ Bx W' c0 g0_ [v0_0_, vI r.2]) :=
  CallR.adJ (J := [c0]) (fun c => bif Nat.beq c 0 then 0 else bif Nat.beq c 2 then c0 else 0) (c83 (V := W.view K [c0]) (hB0.viewJ 0 hJ) (h0_0.view _) (h1.view _) hm) fun _ _ ⟨e, f0⟩ => ⟨e, Bx.backJ 0 f0 rfl⟩

theorem c99 {V : CW} {x0 : Vm.l30Rd} {g0_ : Nat} {v0_0_ : Value} {r : Str × Int} (hB0 : Bx V 2 g0_ [v0_0_, vI x0.p]) (h0_0 : Rd V [0] [v0_0_] x0.b) (hm : Vm.spec_l30Line x0 = some r) : CallR Try.prog 99 [ptr (bx g0_)].toArray V.w (Res V LL fun Wf v => v = vS r.1 ∧ Bx Wf 2 g0_ [v0_0_, vI r.2]) := by
  unfold Vm.spec_l30Line at hm
  obtain ⟨W0, hW0⟩ : ∃ W, W = V := ⟨V, rfl⟩
  subst hW0
  refine CallR.of Try.func99 rfl rfl rfl rfl ?_
  refine Cw.seq ?_
  refine Cw.region ?_
  refine Lw.r rfl (R.as (v := vS ([] : Str)) rfl) ?_
  refine Lw.nil ?_
  refine Cw.seq ?_
  refine Cw.region ?_
  refine Lw.r rfl (R.mv (v := ptr (bx g0_)) rfl) ?_
  refine Lw.t rfl (T.bsS (α := Str) (xs := [([97] : Str), ([98] : Str), ([99] : Str), ([100] : Str), ([] : Str), ([120, 32, 121] : Str), ([115, 101, 101, 32, 97] : Str), ([115, 101, 101, 32, 100, 47, 101] : Str), ([101, 110, 100] : Str)]) 3 [] (W := W0) [vS ([97] : Str), vS ([98] : Str), vS ([99] : Str), vS ([100] : Str), vS ([] : Str), vS ([120, 32, 121] : Str), vS ([115, 101, 101, 32, 97] : Str), vS ([115, 101, 101, 32, 100, 47, 101] : Str), vS ([101, 110, 100] : Str)] (Each.cons ((rdS _)) (Each.cons ((rdS _)) (Each.cons ((rdS _)) (Each.cons ((rdS _)) (Each.cons ((rdS _)) (Each.cons ((rdS _)) (Each.cons ((rdS _)) (Each.cons ((rdS _)) (Each.cons ((rdS _)) Each.nil))))))))) rfl) ?_
  rintro v1 _ ⟨W1, rfl, l1, o1⟩
  have a2 : Le LL _ _ := l1.nil
  have b3 := hB0.up l1 rfl
  have s4 := h0_0.ul a2
  obtain ⟨z5, e6, hm⟩ := ob hm
  refine Lw.t rfl (T.call rfl (p83 (K := [0, 3])  (c0 := 2) (x0 := x0) b3 (s4.sub (M := [0, 3]) rfl) (o1.rd.sub (M := [0, 3]) rfl) rfl e6)) ?_
  rintro _ _ ⟨W7, rfl, l7, ⟨rfl, f7_0⟩⟩
  have a8 : Le LL _ _ := l7.sub rfl
  have o9 := o1.up l7 rfl
  refine Lw.r rfl (R.as (v := vS z5.1) rfl) ?_
  refine Lw.nil ?_
  cases hm
  exact Cw.ret (ret1 rfl (Res.mk (a2.trans a8) ⟨rfl, f7_0⟩))

theorem p99 {W : CW} {K : List Nat} {x0 : Vm.l30Rd} {g0_ : Nat} {v0_0_ : Value} {c0 : Nat} {r : Str × Int} (hB0 : Bx W c0 g0_ [v0_0_, vI x0.p]) (h0_0 : Rd W K [v0_0_] x0.b) (hJ : okJ K [c0] = true) (hm : Vm.spec_l30Line x0 = some r) : CallR Try.prog 99 [ptr (bx g0_)].toArray W.w (Res W [c0] fun W' v => v = vS r.1 ∧ Bx W' c0 g0_ [v0_0_, vI r.2]) :=
  CallR.adJ (J := [c0]) (fun c => bif Nat.beq c 0 then 0 else bif Nat.beq c 2 then c0 else 0) (c99 (V := W.view K [c0]) (hB0.viewJ 0 hJ) (h0_0.view _) hm) fun _ _ ⟨e, f0⟩ => ⟨e, Bx.backJ 0 f0 rfl⟩

theorem c98 {V : CW} {x0 : Vm.l30Rd} {g0_ : Nat} {v0_0_ : Value} {r : (List Str) × Int} (hB0 : Bx V 2 g0_ [v0_0_, vI x0.p]) (h0_0 : Rd V [0] [v0_0_] x0.b) (hm : Vm.spec_l30Text x0 = some r) : CallR Try.prog 98 [ptr (bx g0_)].toArray V.w (Res V LL fun Wf v => ∃ (u0 : Value), v = u0 ∧ OwS Wf [31] [] [u0] r.1 ∧ Bx Wf 2 g0_ [v0_0_, vI r.2]) := by
  unfold Vm.spec_l30Text at hm
  obtain ⟨W0, hW0⟩ : ∃ W, W = V := ⟨V, rfl⟩
  subst hW0
  refine CallR.of Try.func98 rfl rfl rfl rfl ?_
  refine Cw.seq ?_
  refine Cw.region ?_
  refine Lw.r rfl (R.as (v := .slice none 0 0) rfl) ?_
  refine Lw.nil ?_
  refine Cw.seq ?_
  refine Cw.region ?_
  refine Lw.t rfl (T.lit0 (α := Str) 3 []) ?_
  rintro v1 _ ⟨W1, rfl, l1, o1⟩
  have a2 : Le LL _ _ := l1.nil
  have b3 := hB0.up l1 rfl
  refine Lw.r rfl (R.as (v := v1) rfl) ?_
  refine Lw.nil ?_
  refine Cw.seq ?_
  refine Cw.seq ?_
  refine Cw.region ?_
  refine Lw.r rfl (R.mv (v := ptr (bx g0_)) rfl) ?_
  refine Lw.t rfl (T.bsS (α := Int) (xs := [0, 1, 3, 5, 8]) 4 [] (W := W1) [vI 0, vI 1, vI 3, vI 5, vI 8] (Each.cons ((rdI _)) (Each.cons ((rdI _)) (Each.cons ((rdI _)) (Each.cons ((rdI _)) (Each.cons ((rdI _)) Each.nil))))) rfl) ?_
  rintro v4 _ ⟨W4, rfl, l4, o4⟩
  have a5 : Le LL _ _ := l4.nil
  have o6 := o1.up l4 rfl
  have b7 := b3.up l4 rfl
  have s8 := h0_0.ul (a2.trans a5)
  obtain ⟨z9, e10, hm⟩ := ob hm
  refine Lw.t rfl (T.call rfl (p106 (K := [0, 4])  (c0 := 2) (x0 := x0) b7 (s8.sub (M := [0, 4]) rfl) (o4.rd.sub (M := [0, 4]) rfl) rfl e10)) ?_
  rintro _ _ ⟨W11, rfl, l11, ⟨rfl, f11_0⟩⟩
  have a12 : Le LL _ _ := l11.sub rfl
  have o13 := o6.up l11 rfl
  have o14 := o4.up l11 rfl
  refine Lw.r rfl (R.as (v := vI z9.1) rfl) ?_
  refine Lw.nil ?_
  refine Cw.block ?_
  obtain ⟨K22, hK22, hm⟩ := jn_e hm
  refine Cw.loop 9 17 [3, 4] (fun m l w => ∃ (y15 : List Str) (y18 : Int) (y19 : Int) (v16 : Value) (W21 : CW), W21.w = w ∧ Le [2, 3] W11 W21 ∧ l = [v16, vI y18] ∧ Ow W21 3 [] [v16] y15 ∧ Bx W21 2 g0_ [v0_0_, vI y19] ∧ Vm.spec_l30Text_l1 x0 K22 m y15 y18 y19 = some r) ((z9.1 - 0).toNat + 1) ⟨([] : List Str), z9.1, z9.2, v1, W11, rfl, Le.refl _ _, rfl, o13, f11_0, hm⟩ ?_
  rintro m23 _ _ σ ⟨y15, y18, y19, v16, W21, rfl, l21, rfl, o17, b20, hm⟩
  obtain _ | m23 := m23
  · cases hm
  unfold Vm.spec_l30Text_l1 at hm
  have a24 : Le LL _ _ := l21.sub rfl
  have o25 := o14.up l21 rfl
  refine Cw.seq ?_
  refine Cw.seq ?_
  refine Cw.region ?_
  refine Lw.r rfl (R.mv (v := vI y18) rfl) (Lw.r rfl (R.gt rfl rfl) ?_)
  refine Lw.nil ?_
  refine Cw.cond (b := decide ((0 : Int) < (y18 : Int))) rfl (fun hc26 => ?_) (fun hc26 => ?_)
  · replace hm := bt hm hc26
    refine Cw.skip ?_
    refine Cw.seq ?_
    refine Cw.block ?_
    refine Cw.region ?_
    refine Lw.r rfl (R.mv (v := v16) rfl) (Lw.r rfl (R.mv (v := ptr (bx g0_)) rfl) ?_)
    have s27 := h0_0.ul (a2.trans (a5.trans (a12.trans a24)))
    obtain ⟨z28, e29, hm⟩ := ob hm
    refine Lw.t rfl (T.call rfl (p99 (K := [0])  (c0 := 2) (x0 := (Vm.l30Rd.mk x0.b y19)) b20 s27 rfl e29)) ?_
    rintro _ _ ⟨W30, rfl, l30, ⟨rfl, f30_0⟩⟩
    have a31 : Le LL _ _ := l30.sub rfl
    have o32 := o17.up l30 rfl
    have o33 := o25.up l30 rfl
    refine Lw.t rfl (T.bs 5 [vS z28.1] (cs := [vS z28.1]) rfl rfl (bsv rfl)) ?_
    rintro _ _ ⟨g34, W34, rfl, rfl, l34, b34⟩
    have a35 : Le LL _ _ := l34.nil
    have o36 := o32.up l34 rfl
    have o37 := o33.up l34 rfl
    have b38 := f30_0.up l34 rfl
    obtain ⟨q39, e40, hm⟩ := ob hm
    refine Lw.t rfl (T.app1S (α := Str) (K' := []) o36 b34 (rdS _) rfl rfl e40) ?_
    rintro v41 _ ⟨W41, rfl, l41, o41⟩
    have a42 : Le LL _ _ := l41.sub rfl
    have o43 := o37.up l41 rfl
    have b44 := b38.up l41 rfl
    have b45 := b34.up l41 rfl
    refine Lw.r rfl (R.as (v := v41) rfl) ?_
    refine Lw.nil ?_
    refine Cw.region ?_
    refine Lw.r rfl (R.mv (v := vI y18) rfl) (Lw.r rfl (R.sub rfl rfl) (Lw.r rfl (R.as (v := vI (w64 (y18 - 1))) rfl) ?_))
    refine Lw.nil ?_
    refine ⟨?_, m23, Nat.lt_succ_self m23, ⟨q39, w64 (y18 - 1), z28.2, v41, W41, rfl, (l21.trans ((l30.sub rfl).trans ((l34.sub rfl).trans (l41.sub rfl)))), rfl, o41, b44, hm⟩⟩
    iterate 11 (refine Agree.up rfl ?_)
    iterate 2 (refine Agree.up rfl ?_)
    exact Agree.base
  · replace hm := bf hm hc26
    refine Cw.exit ?_
    rw [hK22] at hm
    refine Cw.seq ?_
    refine Cw.region ?_
    refine Lw.r rfl (R.mv (v := v16) rfl) (Lw.r rfl (R.as (v := v16) rfl) ?_)
    refine Lw.nil ?_
    obtain ⟨W46, ew46, l46, o46⟩ := o17.dyeO 31
    have a47 : Le LL _ _ := l46.sub rfl
    have o48 := o25.up l46 rfl
    have b49 := b20.up l46 rfl
    cases hm
    rw [← ew46]
    exact Cw.ret (ret1 rfl (Res.mk (a2.trans (a5.trans (a12.trans (a24.trans a47)))) ⟨v16, rfl, o46.s, b49⟩))

theorem p98 {W : CW} {K : List Nat} {x0 : Vm.l30Rd} {g0_ : Nat} {v0_0_ : Value} {k0 : Nat} {c0 : Nat} {r : (List Str) × Int} (hB0 : Bx W c0 g0_ [v0_0_, vI x0.p]) (h0_0 : Rd W K [v0_0_] x0.b) (hJ : okJ K [c0] = true) (hm : Vm.spec_l30Text x0 = some r) : CallR Try.prog 98 [ptr (bx g0_)].toArray W.w (Res W [c0] fun W' v => ∃ (u0 : Value), v = u0 ∧ Ow W' k0 [] [u0] r.1 ∧ Bx W' c0 g0_ [v0_0_, vI r.2]) :=
  CallR.adJ (J := [c0]) (fun c => bif Nat.beq c 0 then 0 else bif Nat.beq c 2 then c0 else bif Nat.beq c 31 then k0 else 0) (c98 (V := W.view K [c0]) (hB0.viewJ 0 hJ) (h0_0.view _) hm) fun _ _ ⟨u0, e, f0, f1⟩ => ⟨u0, e, f0.one1.backN rfl, Bx.backJ 0 f1 rfl⟩

theorem c77 {V : CW} {x0 : Vm.l30Rd} {g0_ : Nat} {v0_0_ : Value} {r : (List Str) × Int} (hB0 : Bx V 2 g0_ [v0_0_, vI x0.p]) (h0_0 : Rd V [0] [v0_0_] x0.b) (hm : Vm.spec_l30AnyText x0 = some r) : CallR Try.prog 77 [ptr (bx g0_)].toArray V.w (Res V LL fun Wf v => ∃ (u0 : Value), v = u0 ∧ OwS Wf [31] [] [u0] r.1 ∧ Bx Wf 2 g0_ [v0_0_, vI r.2]) := by
  unfold Vm.spec_l30AnyText at hm
  obtain ⟨W0, hW0⟩ : ∃ W, W = V := ⟨V, rfl⟩
  subst hW0
  refine CallR.of Try.func77 rfl rfl rfl rfl ?_
  refine Cw.seq ?_
  refine Cw.region ?_
  refine Lw.r rfl (R.as (v := .slice none 0 0) rfl) ?_
  refine Lw.nil ?_
  refine Cw.seq ?_
  refine Cw.region ?_
  refine Lw.r rfl (R.mv (v := ptr (bx g0_)) rfl) ?_
  obtain ⟨z1, e2, hm⟩ := ob hm
  refine Lw.t rfl (T.call rfl (p98 (K := [0]) (k0 := 3) (c0 := 2) (x0 := x0) hB0 h0_0 rfl e2)) ?_
  rintro v0_3 _ ⟨W3, rfl, l3, ⟨_, rfl, f3_0, f3_1⟩⟩
  have a4 : Le LL _ _ := l3.sub rfl
  refine Lw.r rfl (R.as (v := v0_3) rfl) ?_
  refine Lw.nil ?_
  refine Cw.seq ?_
  refine Cw.seq ?_
  refine Cw.region ?_
  refine Lw.r rfl (R.mv (v := ptr (bx g0_)) rfl) ?_
  have s5 := h0_0.ul a4
  obtain ⟨z6, e7, hm⟩ := ob hm
  refine Lw.t rfl (T.call rfl (p79 (K := [0])  (c0 := 2) (x0 := (Vm.l30Rd.mk x0.b z1.2)) f3_1 s5 rfl e7)) ?_
  rintro _ _ ⟨W8, rfl, l8, ⟨rfl, f8_0⟩⟩
  have a9 : Le LL _ _ := l8.sub rfl
  have o10 := f3_0.up l8 rfl
  refine Lw.nil ?_
  refine Cw.block ?_
  refine Cw.seq ?_
  refine Cw.region ?_
  refine Lw.r rfl (R.eq rfl rfl) (Lw.r rfl (R.as (v := vB ((z6.1 : Int) == (0 : Int))) rfl) ?_)
  refine Lw.nil ?_
  refine Cw.cond (b := ((z6.1 : Int) == (0 : Int))) rfl (fun hc11 => ?_) (fun hc11 => ?_)
  · replace hm := bt hm hc11
    refine Cw.seq ?_
    refine Cw.region ?_
    refine Lw.r rfl (R.mv (v := v0_3) rfl) (Lw.r rfl (R.mv (v := ptr (bx g0_)) rfl) ?_)
    refine Lw.t rfl (T.bsS (α := Str) (xs := [([97, 32, 108, 105, 110, 101, 32, 116, 111, 111, 32, 108, 111, 110, 103] : Str), ([120, 10, 121] : Str), ([255] : Str)]) 4 [] (W := W8) [vS ([97, 32, 108, 105, 110, 101, 32, 116, 111, 111, 32, 108, 111, 110, 103] : Str), vS ([120, 10, 121] : Str), vS ([255] : Str)] (Each.cons ((rdS _)) (Each.cons ((rdS _)) (Each.cons ((rdS _)) Each.nil))) rfl) ?_
    rintro v12 _ ⟨W12, rfl, l12, o12⟩
    have a13 : Le LL _ _ := l12.nil
    have o14 := o10.up l12 rfl
    have b15 := f8_0.up l12 rfl
    have s16 := h0_0.ul (a4.trans (a9.trans a13))
    obtain ⟨z17, e18, hm⟩ := ob hm
    refine Lw.t rfl (T.call rfl (p83 (K := [0, 4])  (c0 := 2) (x0 := (Vm.l30Rd.mk x0.b z6.2)) b15 (s16.sub (M := [0, 4]) rfl) (o12.rd.sub (M := [0, 4]) rfl) rfl e18)) ?_
    rintro _ _ ⟨W19, rfl, l19, ⟨rfl, f19_0⟩⟩
    have a20 : Le LL _ _ := l19.sub rfl
    have o21 := o14.up l19 rfl
    have o22 := o12.up l19 rfl
    refine Lw.t rfl (T.bs 5 [vS z17.1] (cs := [vS z17.1]) rfl rfl (bsv rfl)) ?_
    rintro _ _ ⟨g23, W23, rfl, rfl, l23, b23⟩
    have a24 : Le LL _ _ := l23.nil
    have o25 := o21.up l23 rfl
    have o26 := o22.up l23 rfl
    have b27 := f19_0.up l23 rfl
    obtain ⟨q28, e29, hm⟩ := ob hm
    refine Lw.t rfl (T.app1S (α := Str) (K' := []) o25 b23 (rdS _) rfl rfl e29) ?_
    rintro v30 _ ⟨W30, rfl, l30, o30⟩
    have a31 : Le LL _ _ := l30.sub rfl
    have o32 := o26.up l30 rfl
    have b33 := b27.up l30 rfl
    have b34 := b23.up l30 rfl
    refine Lw.r rfl (R.as (v := v30) rfl) ?_
    refine Lw.nil ?_
    obtain ⟨W35, ew35, l35, o35⟩ := o30.dyeO 31
    have a36 : Le LL _ _ := l35.sub rfl
    have o37 := o32.up l35 rfl
    have b38 := b33.up l35 rfl
    have b39 := b34.up l35 rfl
    cases hm
    rw [← ew35]
    exact Cw.ret (ret1 rfl (Res.mk (a4.trans (a9.trans (a13.trans (a20.trans (a24.trans (a31.trans a36)))))) ⟨v30, rfl, o35.s, b38⟩))
  · replace hm := bf hm hc11
    refine Cw.seq ?_
    refine Cw.region ?_
    refine Lw.r rfl (R.eq rfl rfl) (Lw.r rfl (R.as (v := vB ((z6.1 : Int) == (1 : Int))) rfl) ?_)
    refine Lw.nil ?_
    refine Cw.cond (b := ((z6.1 : Int) == (1 : Int))) rfl (fun hc40 => ?_) (fun hc40 => ?_)
    · replace hm := bt hm hc40
      refine Cw.seq ?_
      refine Cw.region ?_
      refine Lw.r rfl (R.mv (v := v0_3) rfl) ?_
      refine Lw.t rfl (T.bsS (α := Str) (xs := [([49] : Str), ([50] : Str), ([51] : Str), ([52] : Str), ([53] : Str), ([54] : Str), ([55] : Str), ([56] : Str), ([57] : Str), ([49, 48] : Str)]) 6 [] (W := W8) [vS ([49] : Str), vS ([50] : Str), vS ([51] : Str), vS ([52] : Str), vS ([53] : Str), vS ([54] : Str), vS ([55] : Str), vS ([56] : Str), vS ([57] : Str), vS ([49, 48] : Str)] (Each.cons ((rdS _)) (Each.cons ((rdS _)) (Each.cons ((rdS _)) (Each.cons ((rdS _)) (Each.cons ((rdS _)) (Each.cons ((rdS _)) (Each.cons ((rdS _)) (Each.cons ((rdS _)) (Each.cons ((rdS _)) (Each.cons ((rdS _)) Each.nil)))))))))) rfl) ?_
      rintro v41 _ ⟨W41, rfl, l41, o41⟩
      have a42 : Le LL _ _ := l41.nil
      have o43 := o10.up l41 rfl
      have b44 := f8_0.up l41 rfl
      obtain ⟨q45, e46, hm⟩ := ob hm
      refine Lw.t rfl (T.appP (α := Str) o43 o41.rd rfl rfl e46) ?_
      rintro v47 _ ⟨W47, rfl, l47, o47⟩
      have a48 : Le LL _ _ := l47.sub rfl
      have o49 := o41.up l47 rfl
      have b50 := b44.up l47 rfl
      refine Lw.r rfl (R.as (v := v47) rfl) ?_
      refine Lw.nil ?_
      obtain ⟨W51, ew51, l51, o51⟩ := o47.dyeO 31
      have a52 : Le LL _ _ := l51.sub rfl
      have o53 := o49.up l51 rfl
      have b54 := b50.up l51 rfl
      cases hm
      rw [← ew51]
      exact Cw.ret (ret1 rfl (Res.mk (a4.trans (a9.trans (a42.trans (a48.trans a52)))) ⟨v47, rfl, o51.s, b54⟩))
    · replace hm := bf hm hc40
      refine Cw.skip ?_
      refine Cw.seq ?_
      refine Cw.region ?_
      refine Lw.r rfl (R.mv (v := v0_3) rfl) (Lw.r rfl (R.as (v := v0_3) rfl) ?_)
      refine Lw.nil ?_
      obtain ⟨W55, ew55, l55, o55⟩ := o10.dyeO 31
      have a56 : Le LL _ _ := l55.sub rfl
      have b57 := f8_0.up l55 rfl
      cases hm
      rw [← ew55]
      exact Cw.ret (ret1 rfl (Res.mk (a4.trans (a9.trans a56)) ⟨v0_3, rfl, o55.s, b57⟩))

theorem p77 {W : CW} {K : List Nat} {x0 : Vm.l30Rd} {g0_ : Nat} {v0_0_ : Value} {k0 : Nat} {c0 : Nat} {r : (List Str) × Int} (hB0 : Bx W c0 g0_ [v0_0_, vI x0.p]) (h0_0 : Rd W K [v0_0_] x0.b) (hJ : okJ K [c0] = true) (hm : Vm.spec_l30AnyText x0 = some r) : CallR Try.prog 77 [ptr (bx g0_)].toArray W.w (Res W [c0] fun W' v => ∃ (u0 : Value), v = u0 ∧ Ow W' k0 [] [u0] r.1 ∧ Bx W' c0 g0_ [v0_0_, vI r.2]) :=
  CallR.adJ (J := [c0]) (fun c => bif Nat.beq c 0 then 0 else bif Nat.beq c 2 then c0 else bif Nat.beq c 31 then k0 else 0) (c77 (V := W.view K [c0]) (hB0.viewJ 0 hJ) (h0_0.view _) hm) fun _ _ ⟨u0, e, f0, f1⟩ => ⟨u0, e, f0.one1.backN rfl, Bx.backJ 0 f1 rfl⟩

theorem c78 {V : CW} {x0 : Vm.l30Rd} {g0_ : Nat} {v0_0_ : Value} {x1 : List Str} {v1_ : Value} {r : (List Str) × Int} (hB0 : Bx V 2 g0_ [v0_0_, vI x0.p]) (h0_0 : Rd V [0] [v0_0_] x0.b) (h1 : Rd V [0] [v1_] x1) (hm : Vm.spec_l30Turn x0 x1 = some r) : CallR Try.prog 78 [ptr (bx g0_), v1_].toArray V.w (Res V LL fun Wf v => ∃ (u0 : Value), v = u0 ∧ OwS Wf [31] [] [u0] r.1 ∧ Bx Wf 2 g0_ [v0_0_, vI r.2]) := by
  unfold Vm.spec_l30Turn at hm
  obtain ⟨W0, hW0⟩ : ∃ W, W = V := ⟨V, rfl⟩
  subst hW0
  refine CallR.of Try.func78 rfl rfl rfl rfl ?_
  refine Cw.seq ?_
  refine Cw.region ?_
  refine Lw.r rfl (R.as (v := .slice none 0 0) rfl) ?_
  refine Lw.nil ?_
  refine Cw.seq ?_
  refine Cw.region ?_
  refine Lw.t rfl (T.lit0 (α := Str) 3 []) ?_
  rintro v1 _ ⟨W1, rfl, l1, o1⟩
  have a2 : Le LL _ _ := l1.nil
  have b3 := hB0.up l1 rfl
  refine Lw.r rfl (R.mv (v := v1_) rfl) ?_
  obtain ⟨q4, e5, hm⟩ := ob hm
  have s7 := h1.ul a2
  refine Lw.t rfl (T.appP (α := Str) o1 s7 rfl rfl e5) ?_
  rintro v6 _ ⟨W6, rfl, l6, o6⟩
  have a8 : Le LL _ _ := l6.sub rfl
  have b9 := b3.up l6 rfl
  refine Lw.r rfl (R.as (v := v6) rfl) ?_
  refine Lw.nil ?_
  refine Cw.seq ?_
  refine Cw.seq ?_
  refine Cw.region ?_
  refine Lw.r rfl (R.mv (v := ptr (bx g0_)) rfl) ?_
  have s10 := h0_0.ul (a2.trans a8)
  obtain ⟨z11, e12, hm⟩ := ob hm
  refine Lw.t rfl (T.call rfl (p79 (K := [0])  (c0 := 2) (x0 := x0) b9 s10 rfl e12)) ?_
  rintro _ _ ⟨W13, rfl, l13, ⟨rfl, f13_0⟩⟩
  have a14 : Le LL _ _ := l13.sub rfl
  have o15 := o6.up l13 rfl
  refine Lw.r rfl (R.as (v := vI z11.1) rfl) ?_
  refine Lw.nil ?_
  refine Cw.block ?_
  obtain ⟨K25, hK25, hm⟩ := jn_e hm
  refine Cw.loop 14 69 [5, 6, 7, 8] (fun m l w => ∃ (y16 : List Str) (y19 : Int) (y22 : Int) (v17 j20 j21 : Value) (W24 : CW), W24.w = w ∧ Le [2, 3, 4, 6] W13 W24 ∧ l = [v17, vI y19, j20, j21] ∧ Ow W24 3 [] [v17] y16 ∧ Bx W24 2 g0_ [v0_0_, vI y22] ∧ Vm.spec_l30Turn_l1 x0 K25 m y16 y19 y22 = some r) ((z11.1 - 0).toNat + 1) ⟨q4, z11.1, z11.2, v6, undef, undef, W13, rfl, Le.refl _ _, rfl, o15, f13_0, hm⟩ ?_
  rintro m26 _ _ σ ⟨y16, y19, y22, v17, j20, j21, W24, rfl, l24, rfl, o18, b23, hm⟩
  obtain _ | m26 := m26
  · cases hm
  unfold Vm.spec_l30Turn_l1 at hm
  have a27 : Le LL _ _ := l24.sub rfl
  refine Cw.seq ?_
  refine Cw.seq ?_
  refine Cw.region ?_
  refine Lw.r rfl (R.mv (v := vI y19) rfl) (Lw.r rfl (R.gt rfl rfl) ?_)
  refine Lw.nil ?_
  refine Cw.cond (b := decide ((0 : Int) < (y19 : Int))) rfl (fun hc28 => ?_) (fun hc28 => ?_)
  · replace hm := bt hm hc28
    refine Cw.skip ?_
    obtain ⟨K37, hK37, hm⟩ := jn_e hm
    refine Cw.join 18 69 [5, 7, 8] (fun l w => ∃ (y29 : List Str) (y34 : Int) (v30 j32 j33 : Value) (W36 : CW), W36.w = w ∧ Le [2, 3, 4, 6] W24 W36 ∧ l = [v30, j32, j33] ∧ Ow W36 3 [] [v30] y29 ∧ Bx W36 2 g0_ [v0_0_, vI y34] ∧ K37 y29 y34 = some r) ?_ ?_
    · rintro _ _ σ ⟨y29, y34, v30, j32, j33, W36, rfl, l36, rfl, o31, b35, hm⟩
      rw [hK37] at hm
      have a38 : Le LL _ _ := l36.sub rfl
      refine Cw.region ?_
      refine Lw.r rfl (R.mv (v := vI y19) rfl) (Lw.r rfl (R.sub rfl rfl) (Lw.r rfl (R.as (v := vI (w64 (y19 - 1))) rfl) ?_))
      refine Lw.nil ?_
      refine ⟨?_, m26, Nat.lt_succ_self m26, ⟨y29, w64 (y19 - 1), y34, v30, j32, j33, W36, rfl, (l24.trans l36), rfl, o31, b35, hm⟩⟩
      iterate 3 (refine Agree.up rfl ?_)
      iterate 3 (refine Agree.up rfl ?_)
      refine Agree.ov0 rfl ?_
      iterate 2 (refine Agree.up rfl ?_)
      iterate 4 (refine Agree.up rfl ?_)
      exact Agree.base
    · refine Cw.block ?_
      refine Cw.seq ?_
      refine Cw.region ?_
      refine Lw.r rfl (R.mv (v := ptr (bx g0_)) rfl) (Lw.r rfl (R.mv (v := v17) rfl) (Lw.r rfl (lenR (xs := y16) o18.rd rfl) (Lw.r rfl (R.add rfl rfl) ?_)))
      have s39 := h0_0.ul (a2.trans (a8.trans (a14.trans a27)))
      obtain ⟨z40, e41, hm⟩ := ob hm
      refine Lw.t rfl (T.call rfl (p79 (K := [0])  (c0 := 2) (x0 := (Vm.l30Rd.mk x0.b y22)) b23 s39 rfl e41)) ?_
      rintro _ _ ⟨W42, rfl, l42, ⟨rfl, f42_0⟩⟩
      have a43 : Le LL _ _ := l42.sub rfl
      have o44 := o18.up l42 rfl
      refine Lw.r rfl (R.as (v := vI z40.1) rfl) ?_
      refine Lw.nil ?_
      refine Cw.seq ?_
      refine Cw.region ?_
      refine Lw.r rfl (R.mv (v := ptr (bx g0_)) rfl) ?_
      have s45 := h0_0.ul (a2.trans (a8.trans (a14.trans (a27.trans a43))))
      obtain ⟨z46, e47, hm⟩ := ob hm
      refine Lw.t rfl (T.call rfl (p79 (K := [0])  (c0 := 2) (x0 := (Vm.l30Rd.mk x0.b z40.2)) f42_0 s45 rfl e47)) ?_
      rintro _ _ ⟨W48, rfl, l48, ⟨rfl, f48_0⟩⟩
      have a49 : Le LL _ _ := l48.sub rfl
      have o50 := o44.up l48 rfl
      refine Lw.nil ?_
      refine Cw.block ?_
      refine Cw.seq ?_
      refine Cw.region ?_
      refine Lw.r rfl (R.eq rfl rfl) (Lw.r rfl (R.as (v := vB ((z46.1 : Int) == (0 : Int))) rfl) ?_)
      refine Lw.nil ?_
      refine Cw.cond (b := ((z46.1 : Int) == (0 : Int))) rfl (fun hc51 => ?_) (fun hc51 => ?_)
      · replace hm := bt hm hc51
        refine Cw.seq ?_
        refine Cw.region ?_
        refine Lw.r rfl (R.mv (v := v17) rfl) (Lw.r rfl (lenR (xs := y16) o50.rd rfl) (Lw.r rfl (R.lt rfl rfl) ?_))
        refine Lw.nil ?_
        refine Cw.cond (b := decide (((y16.length : Int) : Int) < (10 : Int))) rfl (fun hc52 => ?_) (fun hc52 => ?_)
        · replace hm := bt hm hc52
          refine Cw.seq ?_
          refine Cw.region ?_
          refine Lw.t rfl (T.lit0 (α := Str) 4 []) ?_
          rintro v53 _ ⟨W53, rfl, l53, o53⟩
          have a54 : Le LL _ _ := l53.nil
          have o55 := o50.up l53 rfl
          have b56 := f48_0.up l53 rfl
          refine Lw.r rfl (R.mv (v := v17) rfl) (Lw.r rfl (R.mv (v := vI z40.1) rfl) ?_)
          obtain ⟨q57, e58, hm⟩ := ob hm
          have r60 := o55.rd.cutV e58
          refine Lw.r rfl (R.sl o55.rd e58 rfl (.inl ⟨rfl, rfl⟩) (.inr rfl)) ?_
          obtain ⟨q61, e62, hm⟩ := ob hm
          refine Lw.t rfl (T.appP (α := Str) o53 r60 rfl rfl e62) ?_
          rintro v63 _ ⟨W63, rfl, l63, o63⟩
          have a64 : Le LL _ _ := l63.sub rfl
          have o65 := o55.up l63 rfl
          have b66 := b56.up l63 rfl
          refine Lw.r rfl (R.as (v := v63) rfl) ?_
          refine Lw.nil ?_
          refine Cw.seq ?_
          refine Cw.region ?_
          refine Lw.r rfl (R.mv (v := v63) rfl) (Lw.r rfl (R.mv (v := ptr (bx g0_)) rfl) ?_)
          have s67 := h0_0.ul (a2.trans (a8.trans (a14.trans (a27.trans (a43.trans (a49.trans (a54.trans a64)))))))
          obtain ⟨z68, e69, hm⟩ := ob hm
          refine Lw.t rfl (T.call rfl (p99 (K := [0])  (c0 := 2) (x0 := (Vm.l30Rd.mk x0.b z46.2)) b66 s67 rfl e69)) ?_
          rintro _ _ ⟨W70, rfl, l70, ⟨rfl, f70_0⟩⟩
          have a71 : Le LL _ _ := l70.sub rfl
          have o72 := o65.up l70 rfl
          have o73 := o63.up l70 rfl
          refine Lw.t rfl (T.bs 5 [vS z68.1] (cs := [vS z68.1]) rfl rfl (bsv rfl)) ?_
          rintro _ _ ⟨g74, W74, rfl, rfl, l74, b74⟩
          have a75 : Le LL _ _ := l74.nil
          have o76 := o72.up l74 rfl
          have o77 := o73.up l74 rfl
          have b78 := f70_0.up l74 rfl
          obtain ⟨q79, e80, hm⟩ := ob hm
          refine Lw.t rfl (T.app1S (α := Str) (K' := []) o77 b74 (rdS _) rfl rfl e80) ?_
          rintro v81 _ ⟨W81, rfl, l81, o81⟩
          have a82 : Le LL _ _ := l81.sub rfl
          have o83 := o76.up l81 rfl
          have b84 := b78.up l81 rfl
          have b85 := b74.up l81 rfl
          refine Lw.r rfl (R.as (v := v81) rfl) ?_
          refine Lw.nil ?_
          refine Cw.region ?_
          refine Lw.r rfl (R.mv (v := v81) rfl) (Lw.r rfl (R.mv (v := v17) rfl) (Lw.r rfl (R.mv (v := vI z40.1) rfl) ?_))
          obtain ⟨q86, e87, hm⟩ := ob hm
          have r89 := o83.rd.cutV e87
          refine Lw.r rfl (R.sl o83.rd e87 rfl (.inr rfl) (.inl ⟨rfl, rfl⟩)) ?_
          obtain ⟨q90, e91, hm⟩ := ob hm
          refine Lw.t rfl (T.appP (α := Str) o81 r89 rfl rfl e91) ?_
          rintro v92 _ ⟨W92, rfl, l92, o92⟩
          have a93 : Le LL _ _ := l92.sub rfl
          have o94 := o83.up l92 rfl
          have b95 := b84.up l92 rfl
          have b96 := b85.up l92 rfl
          refine Lw.r rfl (R.as (v := v92) rfl) ?_
          refine Lw.nil ?_
          obtain ⟨W97, ew97, l97, o97⟩ := o92.dyeO 3
          have a98 : Le LL _ _ := l97.sub rfl
          have b99 := b95.up l97 rfl
          have b100 := b96.up l97 rfl
          refine ⟨?_, ⟨q90, z68.2, v92, vI z40.1, v81, W97, ew97, ((l42.sub rfl).trans ((l48.sub rfl).trans ((l53.sub rfl).trans ((l63.sub rfl).trans ((l70.sub rfl).trans ((l74.sub rfl).trans ((l81.sub rfl).trans ((l92.sub rfl).trans (l97.sub rfl))))))))), rfl, o97, b99, hm⟩⟩
          iterate 31 (refine Agree.up rfl ?_)
          exact Agree.refl _
        · replace hm := bf hm hc52
          refine Cw.skip ?_
          refine ⟨?_, ⟨y16, z46.2, v17, vI z40.1, j21, W48, rfl, ((l42.sub rfl).trans (l48.sub rfl)), rfl, o50, f48_0, hm⟩⟩
          iterate 13 (refine Agree.up rfl ?_)
          exact Agree.refl _
      · replace hm := bf hm hc51
        refine Cw.seq ?_
        refine Cw.region ?_
        refine Lw.r rfl (R.eq rfl rfl) (Lw.r rfl (R.as (v := vB ((z46.1 : Int) == (1 : Int))) rfl) ?_)
        refine Lw.nil ?_
        refine Cw.cond (b := ((z46.1 : Int) == (1 : Int))) rfl (fun hc101 => ?_) (fun hc101 => ?_)
        · replace hm := bt hm hc101
          refine Cw.seq ?_
          refine Cw.region ?_
          refine Lw.r rfl (R.mv (v := vI z40.1) rfl) (Lw.r rfl (R.mv (v := v17) rfl) (Lw.r rfl (lenR (xs := y16) o50.rd rfl) (Lw.r rfl (R.lt rfl rfl) ?_)))
          refine Lw.nil ?_
          refine Cw.cond (b := decide ((z40.1 : Int) < ((y16.length : Int) : Int))) rfl (fun hc102 => ?_) (fun hc102 => ?_)
          · replace hm := bt hm hc102
            refine Cw.draw [] [(1, 0), (2, 0), (3, 0), (5, 0), (6, 0), (7, 0), (8, 0), (0, 3), (4, 3), (9, 3), (10, 0)] mixed (by kernel_rfl) fun W103 l103 => ?_
            have a104 : Le LL _ _ := l103.nil
            have o105 := o50.up l103 rfl
            have b106 := f48_0.up l103 rfl
            refine Mw.p rfl rfl (fun _ => R.mv (v := v17) rfl) (Mw.p rfl rfl (fun _ => R.mv (v := vI z40.1) rfl) ?_)
            obtain ⟨q107, e108, hm⟩ := ob hm
            have r110 := o105.rd.cutV e108
            refine Mw.p rfl rfl (fun _ => R.sl o105.rd e108 rfl (.inl ⟨rfl, rfl⟩) (.inr rfl)) (Mw.p rfl rfl (fun _ => R.mv (v := v17) rfl) (Mw.p rfl rfl (fun _ => R.mv (v := vI z40.1) rfl) (Mw.p rfl rfl (fun _ => R.add rfl rfl) ?_)))
            obtain ⟨q111, e112, hm⟩ := ob hm
            have r114 := o105.rd.cutV e112
            refine Mw.p rfl rfl (fun _ => R.sl o105.rd e112 rfl (.inr rfl) (.inl ⟨rfl, rfl⟩)) ?_
            refine Mw.l rfl rfl (T.lit0 (α := Str) 6 []) ?_
            rintro v115 _ ⟨W115, rfl, l115, o115⟩
            have a116 : Le LL _ _ := l115.nil
            have o117 := o105.up l115 rfl
            have b118 := b106.up l115 rfl
            obtain ⟨q119, e120, hm⟩ := ob hm
            have s122 := r110.up (l115.sub (M := []) rfl) rfl
            refine Mw.l rfl rfl (T.appP (α := Str) o115 s122 rfl rfl e120) ?_
            rintro v121 _ ⟨W121, rfl, l121, o121⟩
            have a123 : Le LL _ _ := l121.sub rfl
            have o124 := o117.up l121 rfl
            have b125 := b118.up l121 rfl
            obtain ⟨q126, e127, hm⟩ := ob hm
            have s129 := r114.up ((l115.sub (M := [6]) rfl).trans (l121.sub (M := [6]) rfl)) rfl
            refine Mw.l rfl rfl (T.appP (α := Str) o121 s129 rfl rfl e127) ?_
            rintro v128 _ ⟨W128, rfl, l128, o128⟩
            have a130 : Le LL _ _ := l128.sub rfl
            have o131 := o124.up l128 rfl
            have b132 := b125.up l128 rfl
            refine Mw.p rfl rfl (fun _ => R.as (v := v128) rfl) ?_
            refine Mw.nil ?_
            obtain ⟨W133, ew133, l133, o133⟩ := o128.dyeO 3
            have a134 : Le LL _ _ := l133.sub rfl
            have b135 := b132.up l133 rfl
            refine ⟨?_, ⟨q126, z46.2, v128, vI z40.1, j21, W133, ew133, ((l42.sub rfl).trans ((l48.sub rfl).trans ((l103.sub rfl).trans ((l115.sub rfl).trans ((l121.sub rfl).trans ((l128.sub rfl).trans (l133.sub rfl))))))), rfl, o133, b135, hm⟩⟩
            iterate 27 (refine Agree.up rfl ?_)
            exact Agree.refl _
          · replace hm := bf hm hc102
            refine Cw.skip ?_
            refine ⟨?_, ⟨y16, z46.2, v17, vI z40.1, j21, W48, rfl, ((l42.sub rfl).trans (l48.sub rfl)), rfl, o50, f48_0, hm⟩⟩
            iterate 16 (refine Agree.up rfl ?_)
            exact Agree.refl _
        · replace hm := bf hm hc101
          refine Cw.seq ?_
          refine Cw.region ?_
          refine Lw.r rfl (R.mv (v := vI z40.1) rfl) (Lw.r rfl (R.mv (v := v17) rfl) (Lw.r rfl (lenR (xs := y16) o50.rd rfl) (Lw.r rfl (R.lt rfl rfl) ?_)))
          refine Lw.nil ?_
          refine Cw.cond (b := decide ((z40.1 : Int) < ((y16.length : Int) : Int))) rfl (fun hc136 => ?_) (fun hc136 => ?_)
          · replace hm := bt hm hc136
            refine Cw.region ?_
            refine Lw.r rfl (R.mv (v := v17) rfl) (Lw.r rfl (R.mv (v := vI z40.1) rfl) (Lw.r rfl (R.mv (v := ptr (bx g0_)) rfl) ?_))
            have s137 := h0_0.ul (a2.trans (a8.trans (a14.trans (a27.trans (a43.trans a49)))))
            obtain ⟨z138, e139, hm⟩ := ob hm
            refine Lw.t rfl (T.call rfl (p99 (K := [0])  (c0 := 2) (x0 := (Vm.l30Rd.mk x0.b z46.2)) f48_0 s137 rfl e139)) ?_
            rintro _ _ ⟨W140, rfl, l140, ⟨rfl, f140_0⟩⟩
            have a141 : Le LL _ _ := l140.sub rfl
            have o142 := o50.up l140 rfl
            obtain ⟨u143, e144, hm⟩ := ob hm
            refine Lw.r rfl (R.ix (α := Str) o142.rd e144 rfl rfl rfl) ?_
            obtain ⟨q146, e147, hm⟩ := ob hm
            refine Lw.u (T.stS (K' := []) o142 (rdS _) e147 rfl rfl rfl) ?_
            rintro _ _ ⟨W145, rfl, l145, o145⟩
            have a148 : Le LL _ _ := l145.sub rfl
            have b149 := f140_0.up l145 rfl
            refine Lw.nil ?_
            refine ⟨?_, ⟨q146, z138.2, v17, vI z40.1, j21, W145, rfl, ((l42.sub rfl).trans ((l48.sub rfl).trans ((l140.sub rfl).trans (l145.sub rfl)))), rfl, o145, b149, hm⟩⟩
            iterate 21 (refine Agree.up rfl ?_)
            exact Agree.refl _
          · replace hm := bf hm hc136
            refine Cw.skip ?_
            refine ⟨?_, ⟨y16, z46.2, v17, vI z40.1, j21, W48, rfl, ((l42.sub rfl).trans (l48.sub rfl)), rfl, o50, f48_0, hm⟩⟩
            iterate 16 (refine Agree.up rfl ?_)
            exact Agree.refl _
  · replace hm := bf hm hc28
    refine Cw.exit ?_
    rw [hK25] at hm
    refine Cw.seq ?_
    refine Cw.region ?_
    refine Lw.r rfl (R.mv (v := v17) rfl) (Lw.r rfl (R.as (v := v17) rfl) ?_)
    refine Lw.nil ?_
    obtain ⟨W150, ew150, l150, o150⟩ := o18.dyeO 31
    have a151 : Le LL _ _ := l150.sub rfl
    have b152 := b23.up l150 rfl
    cases hm
    rw [← ew150]
    exact Cw.ret (ret1 rfl (Res.mk (a2.trans (a8.trans (a14.trans (a27.trans a151)))) ⟨v17, rfl, o150.s, b152⟩))

theorem p78 {W : CW} {K : List Nat} {x0 : Vm.l30Rd} {g0_ : Nat} {v0_0_ : Value} {x1 : List Str} {v1_ : Value} {k0 : Nat} {c0 : Nat} {r : (List Str) × Int} (hB0 : Bx W c0 g0_ [v0_0_, vI x0.p]) (h0_0 : Rd W K [v0_0_] x0.b) (h1 : Rd W K [v1_] x1) (hJ : okJ K [c0] = true) (hm : Vm.spec_l30Turn x0 x1 = some r) : CallR Try.prog 78 [ptr (bx g0_), v1_].toArray W.w (Res W [c0] fun W' v => ∃ (u0 : Value), v = u0 ∧ Ow W' k0 [] [u0] r.1 ∧ Bx W' c0 g0_ [v0_0_, vI r.2]) :=
  CallR.adJ (J := [c0]) (fun c => bif Nat.beq c 0 then 0 else bif Nat.beq c 2 then c0 else bif Nat.beq c 31 then k0 else 0) (c78 (V := W.view K [c0]) (hB0.viewJ 0 hJ) (h0_0.view _) (h1.view _) hm) fun _ _ ⟨u0, e, f0, f1⟩ => ⟨u0, e, f0.one1.backN rfl, Bx.backJ 0 f1 rfl⟩

end Go.Sx
