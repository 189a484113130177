/- Walks: each function answers as its model, printed by a program of ours. Conditions: the arguments read as they are given. -/
import Derived.Test.YtjdljoplpcakpaaXTs
import Derived.Test.YtjdljoplpcakpaaXMd
import Derived.Test.YtjdljoplpcakpaaXW0
import Derived.Test.YtjdljoplpcakpaaXW1
import Derived.Test.YtjdljoplpcakpaaXW3
import Derived.Test.YtjdljoplpcakpaaXW7
namespace Go.Sx
open Go Go.Proofs Go.Vm Rp
set_option linter.unusedVariables false
set_option linter.unusedSimpArgs false

theorem c69 {V : CW} {x0 : List Str} {v0_ : Value} {x1 : List Str} {v1_ : Value} {x2 : List Str} {v2_ : Value} {r : (List Vm.Part)} (h0 : Rd V [0] [v0_] x0) (h1 : Rd V [0] [v1_] x1) (h2 : Rd V [0] [v2_] x2) (hm : Vm.impl_mergeOf x0 x1 x2 = some r) : CallR Try.prog 69 [v0_, v1_, v2_].toArray V.w (Res V LL fun Wf v => ∃ (u0 : Value), v = u0 ∧ OwS Wf LL [] [u0] r) := by
 unfold Vm.impl_mergeOf at hm
 obtain ⟨W0, hW0⟩ : ∃ W, W = V := ⟨V, rfl⟩
 subst hW0
 refine CallR.of Try.func69 rfl rfl rfl rfl (Cw.seq (Cw.region (Lw.g (.slice none 0 0) rfl (Lw.nil (Cw.seq (Cw.region (Lw.m v0_ rfl (Lw.m v1_ rfl ?_))))))))
 obtain ⟨z1, e2, hm⟩ := ob hm
 refine Lw.t rfl (T.call rfl (p96 (K := [0]) (k0 := 2) h0 h1 e2)) ?_
 rintro v0_3 _ ⟨W3, rfl, l3, ⟨_, rfl, f3_0⟩⟩
 have a4 := l3.o
 refine Lw.m v1_ rfl (Lw.ln x1 (h1.ul a4) rfl (Lw.t rfl (T.bs 3 [vI (x1.length : Int)] (cs := [vI (x1.length : Int)]) rfl rfl (bsv rfl)) ?_))
 rintro _ _ ⟨g6, W6, rfl, rfl, l6, b6⟩
 have a7 := a4.n l6
 obtain ⟨q9, e10, hm⟩ := ob hm
 refine Lw.t rfl (T.app1S (α := Int) (K' := []) (f3_0.up l6 rfl) b6 (rdI _) rfl rfl e10) ?_
 rintro v11 _ ⟨W11, rfl, l11, o11⟩
 have a12 := a7.t l11 rfl
 refine Lw.m v0_ rfl (Lw.m v2_ rfl ?_)
 obtain ⟨z16, e17, hm⟩ := ob hm
 refine Lw.t rfl (T.call rfl (p96 (K := [0]) (k0 := 4) (h0.ul a12) (h2.ul a12) e17)) ?_
 rintro v0_18 _ ⟨W18, rfl, l18, ⟨_, rfl, f18_0⟩⟩
 have a19 := a12.n l18
 refine Lw.m v2_ rfl (Lw.ln x2 (h2.ul a19) rfl (Lw.t rfl (T.bs 5 [vI (x2.length : Int)] (cs := [vI (x2.length : Int)]) rfl rfl (bsv rfl)) ?_))
 rintro _ _ ⟨g23, W23, rfl, rfl, l23, b23⟩
 have a24 := a19.n l23
 obtain ⟨q28, e29, hm⟩ := ob hm
 refine Lw.t rfl (T.app1S (α := Int) (K' := []) (f18_0.up l23 rfl) b23 (rdI _) rfl rfl e29) ?_
 rintro v30 _ ⟨W30, rfl, l30, o30⟩
 have a31 := a24.t l30 rfl
 refine Lw.g v11 rfl (Lw.g v30 rfl (Lw.nil (Cw.seq (Cw.region (Lw.t rfl (T.alloc 6 (cs := [.slice none 0 0]) rfl) ?_)))))
 rintro _ _ ⟨g35, W35, rfl, rfl, l35, b35⟩
 have a36 := a31.n l35
 have o37 := (((o11.up l18 rfl).up l23 rfl).up l30 rfl).up l35 rfl
 refine Lw.nil (Cw.seq (Cw.region (Lw.r rfl (R.mkF (vs := [ptr (bx g35)]) rfl) (Lw.g (.func (.func 97) #[] [ptr (bx g35)].toArray) rfl (Lw.nil (Cw.seq (Cw.region (Lw.g (vI 0) rfl (Lw.g (vI 0) rfl (Lw.g (vI 0) rfl (Lw.nil (Cw.seq (Cw.seq (Cw.region (Lw.m v11 rfl (Lw.ln q9 o37.rd rfl (Lw.m (vI 0) rfl (Lw.nil (Cw.block ?_)))))))))))))))))))
 obtain ⟨K54, hK54, hm⟩ := jn_e hm
 refine Cw.loop 35 120 [11, 12, 13, 14, 15, 16, 17, 35] (fun m l w => ∃ (y41 : Int) (y42 : Int) (y43 : Int) (y48 : Int) (y49 : List Vm.Part) (j44 j45 j46 j47 v50 : Value) (W53 : CW), W53.w = w ∧ Le [6, 7, 8, 9, 10] W35 W53 ∧ l = [vI y41, vI y42, vI y43, j44, j45, j46, j47, vI y48] ∧ Ow W53 7 [] [v50] y49 ∧ Bx W53 6 g35 [v50] ∧ Vm.impl_mergeOf_l1 x0 x1 x2 q9 q28 K54 m y41 y42 y43 y48 y49 = some r) (((q9.length : Int) - 0).toNat + 1) ⟨0, 0, 0, 0, ([] : List Part), undef, undef, undef, undef, .slice none 0 0, W35, rfl, Le.refl _ _, rfl, owN 7 [], b35, hm⟩ ?_
 rintro m55 _ _ σ ⟨y41, y42, y43, y48, y49, j44, j45, j46, j47, v50, W53, rfl, l53, rfl, o51, b52, hm⟩
 obtain _ | m55 := m55
 ·cases hm
 unfold Vm.impl_mergeOf_l1 at hm
 have a56 := a36.t l53 rfl
 have o57 := o37.up l53 rfl
 have o58 := (o30.up l35 rfl).up l53 rfl
 refine Cw.seq (Cw.region (Lw.lt rfl (Lw.nil (Cw.seq (Cw.cond (b := decide ((y48 : Int) < ((q9.length : Int) : Int))) rfl (fun hc61 => ?_) (fun hc61 => ?_))))))
 ·replace hm := bt hm hc61
  refine Cw.skip ?_
  obtain ⟨K74, hK74, hm⟩ := jn_e hm
  refine Cw.join 37 119 [11, 12, 13, 14, 15, 16, 17] (fun l w => ∃ (y62 : Int) (y63 : Int) (y64 : Int) (y69 : List Vm.Part) (j65 j66 j67 j68 v70 : Value) (W73 : CW), W73.w = w ∧ Le [6, 7, 8, 9, 10] W53 W73 ∧ l = [vI y62, vI y63, vI y64, j65, j66, j67, j68] ∧ Ow W73 7 [] [v70] y69 ∧ Bx W73 6 g35 [v70] ∧ K74 y62 y63 y64 y69 = some r) ?_ ?_
  ·rintro _ _ σ ⟨y62, y63, y64, y69, j65, j66, j67, j68, v70, W73, rfl, l73, rfl, o71, b72, hm⟩
   rw [hK74] at hm
   refine Cw.region (Lw.add rfl (Lw.m (vI (w64 (y48 + 1))) rfl (Lw.nil (⟨?_, m55, Nat.lt_succ_self m55, ⟨y62, y63, y64, w64 (y48 + 1), y69, j65, j66, j67, j68, v70, W73, rfl, (l53.trans l73), rfl, o71, b72, hm⟩⟩))))
   iterate 2 (refine Agree.up rfl ?_)
   iterate 7 (refine Agree.up rfl ?_)
   refine Agree.ov0 rfl ?_
   iterate 1 (refine Agree.up rfl ?_)
   iterate 8 (refine Agree.up rfl ?_)
   exact Agree.base
  ·refine Cw.block (Cw.seq (Cw.region (Lw.m (vI y48) rfl (Lw.g (vI y48) rfl (Lw.nil (Cw.seq ?_))))))
   obtain ⟨K82, hK82, hm⟩ := jn_e hm
   refine Cw.join 38 49 [49] (fun l w => ∃ (y80 : Bool) (W81 : CW), W81.w = w ∧ Le [] W53 W81 ∧ l = [vB y80] ∧ K82 y80 = some r) ?_ ?_
   ·rintro _ _ σ ⟨y80, W81, rfl, l81, rfl, hm⟩
    rw [hK82] at hm
    have a83 := a56.n l81
    refine Cw.cond (b := y80) rfl (fun hc90 => ?_) (fun hc90 => ?_)
    ·replace hm := bt hm hc90
     refine Cw.exit (⟨?_, ⟨y41, y42, y43, y49, vI y48, j45, j46, j47, v50, W81, rfl, (l81.sub rfl), rfl, (o51.up l81 rfl), (b52.up l81 rfl), hm⟩⟩)
     iterate 1 (refine Agree.up rfl ?_)
     refine Agree.ov0 rfl ?_
     iterate 2 (refine Agree.up rfl ?_)
     exact Agree.refl _
    ·replace hm := bf hm hc90
     refine Cw.skip (Cw.seq (Cw.draw [] [(0, 0), (1, 0), (2, 0), (3, 0), (4, 0), (5, 0), (6, 0), (7, 0), (8, 0), (9, 1), (10, 0), (11, 0), (12, 0), (13, 0), (14, 0), (15, 0), (16, 1), (17, 0), (18, 0), (19, 0), (20, 0)] mixed (by kernel_rfl) fun W91 l91 => ?_))
     have a92 := a83.n l91
     have o93 := (o57.up l81 rfl).up l91 rfl
     have o94 := (o58.up l81 rfl).up l91 rfl
     refine Mw.p rfl rfl (fun _ => R.mv (v := v0_) rfl) (Mw.p rfl rfl (fun _ => R.mv (v := vI y41) rfl) (Mw.p rfl rfl (fun _ => R.mv (v := vI y48) rfl) ?_))
     obtain ⟨q99, e100, hm⟩ := ob hm
     have r103 := (h0.ul a92).cutV e100
     refine Mw.p rfl rfl (fun _ => R.sl (h0.ul a92) e100 rfl (.inr rfl) (.inr rfl)) (Mw.p rfl rfl (fun _ => R.mv (v := v1_) rfl) (Mw.p rfl rfl (fun _ => R.mv (v := vI y42) rfl) (Mw.p rfl rfl (fun _ => R.mv (v := v11) rfl) (Mw.p rfl rfl (fun _ => R.mv (v := vI y48) rfl) ?_))))
     obtain ⟨u104, e105, hm⟩ := ob hm
     refine Mw.p rfl rfl (fun _ => R.ix (α := Int) o93.rd e105 rfl rfl rfl) (Mw.q rfl rfl (fun _ c => R.ld rfl rfl (cl_cell (o93.rd.at_ e105).1 rfl (o93.rd.at_ e105).int c)) ?_)
     obtain ⟨q106, e107, hm⟩ := ob hm
     have r110 := (h1.ul a92).cutV e107
     refine Mw.p rfl rfl (fun _ => R.sl (h1.ul a92) e107 rfl (.inr rfl) (.inr rfl)) (Mw.p rfl rfl (fun _ => R.mv (v := v2_) rfl) (Mw.p rfl rfl (fun _ => R.mv (v := vI y43) rfl) (Mw.p rfl rfl (fun _ => R.mv (v := v30) rfl) (Mw.p rfl rfl (fun _ => R.mv (v := vI y48) rfl) ?_))))
     obtain ⟨u111, e112, hm⟩ := ob hm
     refine Mw.p rfl rfl (fun _ => R.ix (α := Int) o94.rd e112 rfl rfl rfl) (Mw.q rfl rfl (fun _ c => R.ld rfl rfl (cl_cell (o94.rd.at_ e112).1 rfl (o94.rd.at_ e112).int c)) ?_)
     obtain ⟨q113, e114, hm⟩ := ob hm
     have r117 := (h2.ul a92).cutV e114
     refine Mw.p rfl rfl (fun _ => R.sl (h2.ul a92) e114 rfl (.inr rfl) (.inr rfl)) (Mw.p rfl rfl (fun _ => R.as (v := (cutV v0_ (y41 : Int).toNat (y48 : Int).toNat (Rp.sz (Str)))) rfl) (Mw.p rfl rfl (fun _ => R.as (v := (cutV v1_ (y42 : Int).toNat (u104 : Int).toNat (Rp.sz (Str)))) rfl) (Mw.p rfl rfl (fun _ => R.as (v := (cutV v2_ (y43 : Int).toNat (u111 : Int).toNat (Rp.sz (Str)))) rfl) (Mw.nil ?_))))
     obtain ⟨K123, hK123, hm⟩ := jn_e hm
     refine Cw.join 68 96 [] (fun l w => ∃ (y118 : List Vm.Part) (v119 : Value) (W122 : CW), W122.w = w ∧ Le [6, 7, 8, 9, 10] W91 W122 ∧ l = [] ∧ Ow W122 7 [] [v119] y118 ∧ Bx W122 6 g35 [v119] ∧ K123 y118 = some r) ?_ ?_
     ·rintro _ _ σ ⟨y118, v119, W122, rfl, l122, rfl, o120, b121, hm⟩
      rw [hK123] at hm
      have a124 := a92.t l122 rfl
      obtain ⟨K134, hK134, hm⟩ := jn_e hm
      refine Cw.join 97 107 [] (fun l w => ∃ (y129 : List Vm.Part) (v130 : Value) (W133 : CW), W133.w = w ∧ Le [6, 7] W122 W133 ∧ l = [] ∧ Ow W133 7 [] [v130] y129 ∧ Bx W133 6 g35 [v130] ∧ K134 y129 = some r) ?_ ?_
      ·rintro _ _ σ ⟨y129, v130, W133, rfl, l133, rfl, o131, b132, hm⟩
       rw [hK134] at hm
       refine Cw.draw [] [(0, 0), (1, 0), (2, 0), (3, 0), (4, 0), (5, 1), (6, 0), (7, 0), (8, 0), (9, 0), (10, 1), (11, 0), (12, 0), (13, 0), (14, 0)] mixed (by kernel_rfl) fun W140 l140 => ?_
       have o142 := ((o93.up l122 rfl).up l133 rfl).up l140 rfl
       have o143 := ((o94.up l122 rfl).up l133 rfl).up l140 rfl
       refine Mw.p rfl rfl (fun _ => R.mv (v := vI y48) rfl) (Mw.p rfl rfl (fun _ => R.add rfl rfl) (Mw.p rfl rfl (fun _ => R.mv (v := v11) rfl) (Mw.p rfl rfl (fun _ => R.mv (v := vI y48) rfl) ?_)))
       obtain ⟨u148, e149, hm⟩ := ob hm
       refine Mw.p rfl rfl (fun _ => R.ix (α := Int) o142.rd e149 rfl rfl rfl) (Mw.q rfl rfl (fun _ c => R.ld rfl rfl (cl_cell (o142.rd.at_ e149).1 rfl (o142.rd.at_ e149).int c)) (Mw.p rfl rfl (fun _ => R.add rfl rfl) (Mw.p rfl rfl (fun _ => R.mv (v := v30) rfl) (Mw.p rfl rfl (fun _ => R.mv (v := vI y48) rfl) ?_))))
       obtain ⟨u150, e151, hm⟩ := ob hm
       refine Mw.p rfl rfl (fun _ => R.ix (α := Int) o143.rd e151 rfl rfl rfl) (Mw.q rfl rfl (fun _ c => R.ld rfl rfl (cl_cell (o143.rd.at_ e151).1 rfl (o143.rd.at_ e151).int c)) (Mw.p rfl rfl (fun _ => R.add rfl rfl) (Mw.p rfl rfl (fun _ => R.as (v := vI (w64 (y48 + 1))) rfl) (Mw.p rfl rfl (fun _ => R.as (v := vI (w64 (u148 + 1))) rfl) (Mw.p rfl rfl (fun _ => R.as (v := vI (w64 (u150 + 1))) rfl) (Mw.nil (⟨?_, ⟨w64 (y48 + 1), w64 (u148 + 1), w64 (u150 + 1), y129, vI y48, (cutV v0_ (y41 : Int).toNat (y48 : Int).toNat (Rp.sz (Str))), (cutV v1_ (y42 : Int).toNat (u104 : Int).toNat (Rp.sz (Str))), (cutV v2_ (y43 : Int).toNat (u111 : Int).toNat (Rp.sz (Str))), v130, W140, rfl, ((l81.sub rfl).trans ((l91.sub rfl).trans (l122.trans ((l133.sub rfl).trans (l140.sub rfl))))), rfl, (o131.up l140 rfl), (b132.up l140 rfl), hm⟩⟩)))))))
       iterate 15 (refine Agree.up rfl ?_)
       refine Agree.ov0 rfl (Agree.ov0 rfl ?_)
       iterate 21 (refine Agree.up rfl ?_)
       iterate 1 (refine Agree.up rfl ?_)
       refine Agree.ov0 rfl ?_
       iterate 2 (refine Agree.up rfl ?_)
       exact Agree.refl _
      ·refine Cw.seq (Cw.region (Lw.m (vI y48) rfl (Lw.m v0_ rfl (Lw.ln x0 (h0.ul a124) rfl (Lw.lt rfl (Lw.nil (Cw.cond (b := decide ((y48 : Int) < ((x0.length : Int) : Int))) rfl (fun hc153 => ?_) (fun hc153 => ?_))))))))
       ·replace hm := bt hm hc153
        refine Cw.region (Lw.m (.func (.func 97) #[] [ptr (bx g35)].toArray) rfl (Lw.m v0_ rfl (Lw.m (vI y48) rfl (Lw.m (vI y48) rfl (Lw.add rfl ?_)))))
        obtain ⟨q154, e155, hm⟩ := ob hm
        have r157 := (h0.ul a124).cutV e155
        refine Lw.r rfl (R.sl (h0.ul a124) e155 rfl (.inr rfl) (.inr rfl)) ?_
        obtain ⟨z158, e159, hm⟩ := ob hm
        refine Lw.t rfl (T.callV (vals := [(cutV v0_ (y48 : Int).toNat (w64 (y48 + 1) : Int).toNat (Rp.sz (Str)))]) (caps := [ptr (bx g35)]) rfl rfl (p97 (K := [0])  (c0 := 6) (c1 := 7) (x1 := y118) r157 b121 o120 rfl e159)) ?_
        rintro _ _ ⟨W160, rfl, l160, ⟨w1_160, rfl, f160_0, f160_1⟩⟩
        refine Lw.nil (⟨?_, ⟨z158, w1_160, W160, rfl, l160, rfl, f160_0, f160_1, hm⟩⟩)
        iterate 11 (refine Agree.up rfl ?_)
        exact Agree.refl _
       ·replace hm := bf hm hc153
        refine Cw.skip (⟨?_, ⟨y118, v119, W122, rfl, Le.refl _ _, rfl, o120, b121, hm⟩⟩)
        iterate 4 (refine Agree.up rfl ?_)
        exact Agree.refl _
     ·refine Cw.block ?_
      obtain ⟨K168, hK168, hm⟩ := jn_e hm
      refine Cw.join 78 86 [78] (fun l w => ∃ (y166 : Bool) (W167 : CW), W167.w = w ∧ Le [] W91 W167 ∧ l = [vB y166] ∧ K168 y166 = some r) ?_ ?_
      ·rintro _ _ σ ⟨y166, W167, rfl, l167, rfl, hm⟩
       rw [hK168] at hm
       have a169 := l167.o
       have o172 := ((o51.up l81 rfl).up l91 rfl).up l167 rfl
       have b175 := ((b52.up l81 rfl).up l91 rfl).up l167 rfl
       refine Cw.cond (b := y166) rfl (fun hc176 => ?_) (fun hc176 => ?_)
       ·replace hm := bt hm hc176
        refine Cw.region (Lw.m (.func (.func 97) #[] [ptr (bx g35)].toArray) rfl (Lw.m ((cutV v2_ (y43 : Int).toNat (u111 : Int).toNat (Rp.sz (Str)))) rfl ?_))
        obtain ⟨z178, e179, hm⟩ := ob hm
        refine Lw.t rfl (T.callV (vals := [(cutV v2_ (y43 : Int).toNat (u111 : Int).toNat (Rp.sz (Str)))]) (caps := [ptr (bx g35)]) rfl rfl (p97 (K := [0])  (c0 := 6) (c1 := 7) (x1 := y49) (r117.ul a169) b175 o172 rfl e179)) ?_
        rintro _ _ ⟨W180, rfl, l180, ⟨w1_180, rfl, f180_0, f180_1⟩⟩
        refine Lw.nil (⟨?_, ⟨z178, w1_180, W180, rfl, ((l167.sub rfl).trans (l180.sub rfl)), rfl, f180_0, f180_1, hm⟩⟩)
        iterate 3 (refine Agree.up rfl ?_)
        iterate 1 (refine Agree.up rfl ?_)
        refine Agree.ov0 rfl ?_
        exact Agree.refl _
       ·replace hm := bf hm hc176
        refine Cw.seq (Cw.region (Lw.m ((cutV v2_ (y43 : Int).toNat (u111 : Int).toNat (Rp.sz (Str)))) rfl (Lw.m ((cutV v0_ (y41 : Int).toNat (y48 : Int).toNat (Rp.sz (Str)))) rfl ?_)))
        obtain ⟨z188, e189, hm⟩ := ob hm
        refine Lw.t rfl (T.call rfl (p56 (K := [0])  (r117.ul a169) (r103.ul a169) e189)) ?_
        rintro _ _ ⟨W190, rfl, l190, rfl⟩
        have a191 := a169.n l190
        refine Lw.g (vB z188) rfl (Lw.nil (Cw.cond (b := z188) rfl (fun hc198 => ?_) (fun hc198 => ?_)))
        ·replace hm := bt hm hc198
         refine Cw.region (Lw.m (.func (.func 97) #[] [ptr (bx g35)].toArray) rfl (Lw.m ((cutV v1_ (y42 : Int).toNat (u104 : Int).toNat (Rp.sz (Str)))) rfl ?_))
         obtain ⟨z200, e201, hm⟩ := ob hm
         refine Lw.t rfl (T.callV (vals := [(cutV v1_ (y42 : Int).toNat (u104 : Int).toNat (Rp.sz (Str)))]) (caps := [ptr (bx g35)]) rfl rfl (p97 (K := [0])  (c0 := 6) (c1 := 7) (x1 := y49) (r110.ul a191) (b175.up l190 rfl) (o172.up l190 rfl) rfl e201)) ?_
         rintro _ _ ⟨W202, rfl, l202, ⟨w1_202, rfl, f202_0, f202_1⟩⟩
         refine Lw.nil (⟨?_, ⟨z200, w1_202, W202, rfl, ((l167.sub rfl).trans ((l190.sub rfl).trans (l202.sub rfl))), rfl, f202_0, f202_1, hm⟩⟩)
         iterate 7 (refine Agree.up rfl ?_)
         iterate 1 (refine Agree.up rfl ?_)
         refine Agree.ov0 rfl ?_
         exact Agree.refl _
        ·replace hm := bf hm hc198
         refine Cw.draw [] [(0, 1), (1, 0), (3, 0), (5, 0), (2, 2), (4, 2), (6, 2), (7, 0), (8, 2), (9, 3), (10, 3)] mixed (by kernel_rfl) fun W208 l208 => ?_
         have a209 := a191.n l208
         have b215 := (b175.up l190 rfl).up l208 rfl
         refine Mw.q rfl rfl (fun _ c => R.ld (v := v50) rfl rfl (b215.clc0 rfl rfl c)) (Mw.p rfl rfl (fun _ => R.mv (v := (cutV v0_ (y41 : Int).toNat (y48 : Int).toNat (Rp.sz (Str)))) rfl) (Mw.p rfl rfl (fun _ => R.mv (v := (cutV v1_ (y42 : Int).toNat (u104 : Int).toNat (Rp.sz (Str)))) rfl) (Mw.p rfl rfl (fun _ => R.mv (v := (cutV v2_ (y43 : Int).toNat (u111 : Int).toNat (Rp.sz (Str)))) rfl) ?_)))
         obtain ⟨z217, e218, hm⟩ := ob hm
         refine Mw.t rfl rfl (T.call rfl (p91 (K := [0]) (k0 := 8) (r103.ul a209) e218)) ?_
         rintro v0_219 _ ⟨W219, rfl, l219, ⟨_, rfl, f219_0⟩⟩
         have a220 := a209.n l219
         refine ⟨⟨_, rfl, (l219.sub (M := []) rfl)⟩, ?_⟩
         obtain ⟨z228, e229, hm⟩ := ob hm
         refine Mw.t rfl rfl (T.call rfl (p91 (K := [0]) (k0 := 9) (r110.ul a220) e229)) ?_
         rintro v0_230 _ ⟨W230, rfl, l230, ⟨_, rfl, f230_0⟩⟩
         have a231 := a220.n l230
         refine ⟨⟨_, rfl, ((l219.sub (M := []) rfl).trans (l230.sub (M := []) rfl))⟩, ?_⟩
         obtain ⟨z240, e241, hm⟩ := ob hm
         refine Mw.t rfl rfl (T.call rfl (p91 (K := [0]) (k0 := 10) (r117.ul a231) e241)) ?_
         rintro v0_242 _ ⟨W242, rfl, l242, ⟨_, rfl, f242_0⟩⟩
         have o247 := (f219_0.up l230 rfl).up l242 rfl
         refine ⟨⟨_, rfl, ((l219.sub (M := []) rfl).trans ((l230.sub (M := []) rfl).trans (l242.sub (M := []) rfl)))⟩, ?_⟩
         refine Mw.p rfl rfl (fun _ => R.bd (zs := [vB false, .slice none 0 0, .slice none 0 0, .slice none 0 0, .slice none 0 0]) (cs := [vB true, .slice none 0 0, v0_219, v0_230, v0_242]) [(0, vB true), (2, v0_219), (3, v0_230), (4, v0_242)] rfl rfl rfl (bp_cons rfl rfl (bp_cons o247.oc rfl (bp_cons (f230_0.up l242 rfl).oc rfl (bp_cons f242_0.oc rfl bp_nil))))) (Mw.t rfl rfl (T.bs 11 [.agg [vB true, .slice none 0 0, v0_219, v0_230, v0_242].toArray] (cs := [vB true, .slice none 0 0, v0_219, v0_230, v0_242]) rfl rfl (bsA rfl)) ?_)
         rintro _ _ ⟨g252, W252, rfl, rfl, l252, b252⟩
         refine ⟨⟨_, rfl, ((l219.sub (M := []) rfl).trans ((l230.sub (M := []) rfl).trans ((l242.sub (M := []) rfl).trans (l252.sub (M := []) rfl))))⟩, ?_⟩
         obtain ⟨q263, e264, hm⟩ := ob hm
         refine Mw.l rfl rfl (T.app1 (α := Part) (J := [8, 9, 10]) (K' := []) ((((((o172.up l190 rfl).up l208 rfl).up l219 rfl).up l230 rfl).up l242 rfl).up l252 rfl) b252 (Part.own true ([] : List Str) z217 z228 z240 (owsN []) (o247.up l252 rfl).s ((f230_0.up l242 rfl).up l252 rfl).s (f242_0.up l252 rfl).s) rfl rfl e264) ?_
         rintro v265 _ ⟨W265, rfl, l265, o265⟩
         refine Mw.lu rfl (T.st0 (v := v265) (((((b215.up l219 rfl).up l230 rfl).up l242 rfl).up l252 rfl).up l265 rfl) rfl rfl o265.oc rfl rfl) ?_
         rintro _ _ ⟨W273, rfl, l273, b273⟩
         refine Mw.nil (⟨?_, ⟨q263, v265, W273, rfl, ((l167.sub rfl).trans ((l190.sub rfl).trans ((l208.sub rfl).trans ((l219.sub rfl).trans ((l230.sub rfl).trans ((l242.sub rfl).trans ((l252.sub rfl).trans ((l265.sub rfl).trans (l273.sub rfl))))))))), rfl, (o265.up l273 rfl), b273, hm⟩⟩)
         iterate 14 (refine Agree.up rfl ?_)
         iterate 1 (refine Agree.up rfl ?_)
         refine Agree.ov0 rfl ?_
         exact Agree.refl _
      ·refine Cw.region (Lw.m ((cutV v1_ (y42 : Int).toNat (u104 : Int).toNat (Rp.sz (Str)))) rfl (Lw.m ((cutV v0_ (y41 : Int).toNat (y48 : Int).toNat (Rp.sz (Str)))) rfl ?_))
       obtain ⟨z281, e282, hm⟩ := ob hm
       refine Lw.t rfl (T.call rfl (p56 (K := [0])  r110 r103 e282)) ?_
       rintro _ _ ⟨W283, rfl, l283, rfl⟩
       have a284 := l283.o
       refine Lw.m (vB z281) rfl (bsplit z281 (fun hc291 => ?_) (fun hc291 => ?_))
       ·replace hm := bt hm hc291
        refine Lw.pass' hc291 rfl rfl rfl rfl rfl rfl rfl (Lw.pass' hc291 rfl rfl rfl rfl rfl rfl rfl (Lw.pass' hc291 rfl rfl rfl rfl rfl rfl rfl (Lw.p hc291 (vB true) rfl (Lw.g (vB true) rfl (Lw.nil (⟨?_, ⟨true, W283, rfl, l283, rfl, hm⟩⟩))))))
        iterate 9 (refine Agree.up rfl ?_)
        exact Agree.refl _
       ·replace hm := bf hm hc291
        refine Lw.want' hc291 rfl rfl rfl rfl (Lw.m ((cutV v1_ (y42 : Int).toNat (u104 : Int).toNat (Rp.sz (Str)))) rfl (Lw.want' hc291 rfl rfl rfl rfl (Lw.m ((cutV v2_ (y43 : Int).toNat (u111 : Int).toNat (Rp.sz (Str)))) rfl (Lw.want' hc291 rfl rfl rfl rfl ?_))))
        obtain ⟨z294, e295, hm⟩ := ob hm
        refine Lw.t rfl (T.call rfl (p56 (K := [0])  (r110.ul a284) (r117.ul a284) e295)) ?_
        rintro _ _ ⟨W296, rfl, l296, rfl⟩
        refine Lw.p hc291 (vB z294) rfl (Lw.g (vB z294) rfl (Lw.nil (⟨?_, ⟨z294, W296, rfl, (l283.trans l296), rfl, hm⟩⟩)))
        iterate 9 (refine Agree.up rfl ?_)
        exact Agree.refl _
   ·refine Cw.region (Lw.m v11 rfl (Lw.m (vI y48) rfl ?_))
    obtain ⟨u304, e305, hm⟩ := ob hm
    refine Lw.r rfl (R.ix (α := Int) o57.rd e305 rfl rfl rfl) (Lw.r rfl (R.ld rfl rfl (o57.rd.at_ e305).int) (Lw.lt rfl (Lw.m (vB (decide ((u304 : Int) < (0 : Int)))) rfl (bsplit (decide ((u304 : Int) < (0 : Int))) (fun hc306 => ?_) (fun hc306 => ?_)))))
    ·replace hm := bt hm hc306
     refine Lw.pass' hc306 rfl rfl rfl rfl rfl rfl rfl (Lw.pass' hc306 rfl rfl rfl rfl rfl rfl rfl (Lw.pass' hc306 rfl rfl rfl rfl rfl rfl rfl (Lw.pass' hc306 rfl rfl rfl rfl rfl rfl rfl (Lw.pass' hc306 rfl rfl rfl rfl rfl rfl rfl (Lw.p hc306 (vB true) rfl (Lw.nil (⟨?_, ⟨true, W53, rfl, Le.refl _ _, rfl, hm⟩⟩)))))))
     iterate 12 (refine Agree.up rfl ?_)
     exact Agree.refl _
    ·replace hm := bf hm hc306
     refine Lw.want' hc306 rfl rfl rfl rfl (Lw.m v30 rfl (Lw.want' hc306 rfl rfl rfl rfl (Lw.m (vI y48) rfl (Lw.want' hc306 rfl rfl rfl rfl ?_))))
     obtain ⟨u307, e308, hm⟩ := ob hm
     refine Lw.r rfl (R.ix (α := Int) o58.rd e308 rfl rfl rfl) (Lw.want' hc306 rfl rfl rfl rfl (Lw.r rfl (R.ld rfl rfl (o58.rd.at_ e308).int) (Lw.want' hc306 rfl rfl rfl rfl (Lw.lt rfl (Lw.p hc306 (vB (decide ((u307 : Int) < (0 : Int)))) rfl (Lw.nil (⟨?_, ⟨decide ((u307 : Int) < (0 : Int)), W53, rfl, Le.refl _ _, rfl, hm⟩⟩)))))))
     iterate 12 (refine Agree.up rfl ?_)
     exact Agree.refl _
 ·replace hm := bf hm hc61
  refine Cw.exit ?_
  rw [hK54] at hm
  refine Cw.seq (Cw.region (Lw.r rfl (R.ld (v := v50) rfl rfl (b52.cell0 rfl)) (Lw.g v50 rfl (Lw.nil ?_))))
  cases hm
  exact Cw.ret (ret1 rfl (Res.mk a56 ⟨v50, rfl, o51.s.sub rfl rfl⟩))

theorem p69 {W : CW} {K : List Nat} {x0 : List Str} {v0_ : Value} {x1 : List Str} {v1_ : Value} {x2 : List Str} {v2_ : Value} {k0 : Nat} {r : (List Vm.Part)} (h0 : Rd W K [v0_] x0) (h1 : Rd W K [v1_] x1) (h2 : Rd W K [v2_] x2) (hm : Vm.impl_mergeOf x0 x1 x2 = some r) : CallR Try.prog 69 [v0_, v1_, v2_].toArray W.w (Res W [] fun W' v => ∃ (u0 : Value), v = u0 ∧ Ow W' k0 [] [u0] r) :=
 (c69 (V := W.view K []) (h0.view _) (h1.view _) (h2.view _) hm).ad (fk k0) fun _ _ ⟨u0, e, f0⟩ => ⟨u0, e, f0.back (fk_LL _)⟩

theorem c70 {V : CW} {x0 : List Vm.Memo} {v0_ : Value} {x1 : Vm.Part} {v1_1_ : Value} {v1_2_ : Value} {v1_3_ : Value} {v1_4_ : Value} {r : (List Str) × Bool} (h0 : Rd V [0] [v0_] x0) (h1 : Rd V [0] [vB x1.Clash, v1_1_, v1_2_, v1_3_, v1_4_] x1) (hm : Vm.impl_done x0 x1 = some r) : CallR Try.prog 70 [v0_, .agg [vB x1.Clash, v1_1_, v1_2_, v1_3_, v1_4_].toArray].toArray V.w (Res V LL fun Wf v => ∃ (u0 : Value), v = .tuple [u0, vB r.2].toArray ∧ Rd Wf [0] [u0] r.1) := by
 unfold Vm.impl_done at hm
 obtain ⟨w1_0, w1_1, w1_2, w1_3, he1, h1_1, h1_2, h1_3, h1_4⟩ := Part.split h1
 simp only [List.cons.injEq, and_true, true_and] at he1
 obtain ⟨rfl, rfl, rfl, rfl⟩ := he1
 obtain ⟨W0, hW0⟩ : ∃ W, W = V := ⟨V, rfl⟩
 subst hW0
 refine CallR.of Try.func70 rfl rfl rfl rfl (Cw.seq (Cw.region (Lw.t rfl (T.box 2 (v := .agg [vB x1.Clash, v1_1_, v1_2_, v1_3_, v1_4_].toArray) (cs := [vB x1.Clash, v1_1_, v1_2_, v1_3_, v1_4_]) rfl rfl) ?_)))
 rintro _ _ ⟨g1, W1, rfl, rfl, l1, b1⟩
 have a2 := l1.o
 refine Lw.g (.slice none 0 0) rfl (Lw.g (vB false) rfl (Lw.nil (Cw.seq (Cw.seq (Cw.region (Lw.m v0_ rfl (Lw.ln x0 (h0.ul a2) rfl (Lw.m (vI 0) rfl (Lw.nil (Cw.block ?_))))))))))
 obtain ⟨K11, hK11, hm⟩ := jn_e hm
 refine Cw.loop 10 24 [4, 5, 7, 10] (fun m l w => ∃ (y4 : List Str) (y7 : Bool) (y9 : Int) (v5 j8 : Value) (W10 : CW), W10.w = w ∧ Le [4] W1 W10 ∧ l = [v5, vB y7, j8, vI y9] ∧ Ow W10 3 [] [v5] y4 ∧ Vm.impl_done_l1 x0 x1 K11 m y4 y7 y9 = some r) (((x0.length : Int) - 0).toNat + 1) ⟨([] : List Str), false, 0, .slice none 0 0, undef, W1, rfl, Le.refl _ _, rfl, owN 3 [], hm⟩ ?_
 rintro m12 _ _ σ ⟨y4, y7, y9, v5, j8, W10, rfl, l10, rfl, o6, hm⟩
 obtain _ | m12 := m12
 ·cases hm
 unfold Vm.impl_done_l1 at hm
 have a13 := a2.t l10 rfl
 refine Cw.seq (Cw.region (Lw.lt rfl (Lw.nil (Cw.seq (Cw.cond (b := decide ((y9 : Int) < ((x0.length : Int) : Int))) rfl (fun hc15 => ?_) (fun hc15 => ?_))))))
 ·replace hm := bt hm hc15
  refine Cw.skip (Cw.seq (Cw.block (Cw.seq (Cw.region ?_))))
  obtain ⟨u16, e17, hm⟩ := ob hm
  refine Lw.r rfl (R.ix (α := Memo) (h0.ul a13) e17 rfl rfl rfl) ?_
  obtain ⟨x19, c20, _, r21⟩ := ((h0.ul a13).at_ e17).cells
  obtain ⟨v22, v24, v26, v28, rfl, r23, r25, r27, r29⟩ := Memo.split r21
  refine Lw.r rfl (R.lda c20 rfl rfl) (Lw.t rfl (T.alloc 4 (cs := [.slice none 0 0, .slice none 0 0, .slice none 0 0, .slice none 0 0]) rfl) ?_)
  rintro _ _ ⟨g30, W30, rfl, rfl, l30, b30⟩
  have a31 := l30.o
  refine Lw.u (T.sta (vs := [v22, v24, v26, v28]) b30 rfl rfl (oc_cons r23.oc (oc_cons r25.oc (oc_cons r27.oc (oc_cons r29.oc oc_nil)))) rfl rfl) ?_
  rintro _ _ ⟨W34, rfl, l34, b34⟩
  have a35 := l34.s rfl
  have b37 := ((b1.up l10 rfl).up l30 rfl).up l34 rfl
  refine Lw.nil (Cw.seq (Cw.region (Lw.r rfl (R.lda (cs := [v22, v24, v26, v28]) b34.cells rfl rfl) (Lw.fa rfl (Lw.r rfl (R.ld (v := v1_2_) rfl rfl (b37.cell rfl)) (Lw.fa rfl (Lw.r rfl (R.ld (v := v1_3_) rfl rfl (b37.cell rfl)) (Lw.fa rfl (Lw.r rfl (R.ld (v := v1_4_) rfl rfl (b37.cell rfl)) ?_)))))))))
  obtain ⟨z45, e46, hm⟩ := ob hm
  refine Lw.t rfl (T.call rfl (p57 (K := [0])  (Memo.rd (K := [0]) u16.Old u16.One u16.Two u16.Done (r23.ul (a31.trans a35)) (r25.ul (a31.trans a35)) (r27.ul (a31.trans a35)) (r29.ul (a31.trans a35))) (h1_2.ul ((a13.trans a31).trans a35)) (h1_3.ul ((a13.trans a31).trans a35)) (h1_4.ul ((a13.trans a31).trans a35)) e46)) ?_
  rintro _ _ ⟨W47, rfl, l47, rfl⟩
  have a48 := l47.o
  refine Lw.nil (Cw.cond (b := z45) rfl (fun hc52 => ?_) (fun hc52 => ?_))
  ·replace hm := bt hm hc52
   refine Cw.seq (Cw.region (Lw.fa rfl (Lw.r rfl (R.ld (v := v28) rfl rfl ((b34.up l47 rfl).cell rfl)) (Lw.g v28 rfl (Lw.g (vB true) rfl (Lw.nil ?_))))))
   cases hm
   exact Cw.ret (ret2 rfl rfl (Res.mk (((a13.trans a31).trans a35).trans a48) ⟨v28, rfl, (r29.ul ((a31.trans a35).trans a48))⟩))
  ·replace hm := bf hm hc52
   refine Cw.skip (Cw.region (Lw.add rfl (Lw.m (vI (w64 (y9 + 1))) rfl (Lw.nil (⟨?_, m12, Nat.lt_succ_self m12, ⟨y4, y7, w64 (y9 + 1), v5, ptr (bx g30), W47, rfl, (l10.trans ((l30.sub rfl).trans (l34.trans (l47.sub rfl)))), rfl, (((o6.up l30 rfl).up l34 rfl).up l47 rfl), hm⟩⟩)))))
   iterate 14 (refine Agree.up rfl ?_)
   iterate 4 (refine Agree.up rfl ?_)
   exact Agree.base
 ·replace hm := bf hm hc15
  refine Cw.exit ?_
  rw [hK11] at hm
  refine Cw.seq (Cw.region (Lw.g (.slice none 0 0) rfl (Lw.g (vB false) rfl (Lw.nil ?_))))
  cases hm
  exact Cw.ret (ret2 rfl rfl (Res.mk a13 ⟨.slice none 0 0, rfl, (rdN (K := [0]))⟩))

theorem p70 {W : CW} {K : List Nat} {x0 : List Vm.Memo} {v0_ : Value} {x1 : Vm.Part} {v1_1_ : Value} {v1_2_ : Value} {v1_3_ : Value} {v1_4_ : Value} {r : (List Str) × Bool} (h0 : Rd W K [v0_] x0) (h1 : Rd W K [vB x1.Clash, v1_1_, v1_2_, v1_3_, v1_4_] x1) (hm : Vm.impl_done x0 x1 = some r) : CallR Try.prog 70 [v0_, .agg [vB x1.Clash, v1_1_, v1_2_, v1_3_, v1_4_].toArray].toArray W.w (Res W [] fun W' v => ∃ (u0 : Value), v = .tuple [u0, vB r.2].toArray ∧ Rd W' (0 :: K) [u0] r.1) :=
 (c70 (V := W.view K []) (h0.view _) (h1.view _) hm).ad (fk 0) fun _ _ ⟨u0, e, f0⟩ => ⟨u0, e, f0.back rfl⟩

theorem c30 {V : CW} {x0 : List Vm.Memo} {v0_ : Value} {x1 : List Str} {v1_ : Value} {x2 : List Str} {v2_ : Value} {x3 : List Str} {v3_ : Value} {r : Int} (h0 : Rd V [0] [v0_] x0) (h1 : Rd V [0] [v1_] x1) (h2 : Rd V [0] [v2_] x2) (h3 : Rd V [0] [v3_] x3) (hm : Vm.impl_MemoLeft x0 x1 x2 x3 = some r) : CallR Try.prog 30 [v0_, v1_, v2_, v3_].toArray V.w (Res V LL fun Wf v => v = vI r) := by
 unfold Vm.impl_MemoLeft at hm
 obtain ⟨W0, hW0⟩ : ∃ W, W = V := ⟨V, rfl⟩
 subst hW0
 refine CallR.of Try.func30 rfl rfl rfl rfl (Cw.seq (Cw.region (Lw.g (vI 0) rfl (Lw.nil (Cw.seq ?_)))))
 obtain ⟨K3, hK3, hm⟩ := jn_e hm
 refine Cw.join 14 23 [23] (fun l w => ∃ (y1 : Bool) (W2 : CW), W2.w = w ∧ Le [] W0 W2 ∧ l = [vB y1] ∧ K3 y1 = some r) ?_ ?_
 ·rintro _ _ σ ⟨y1, W2, rfl, l2, rfl, hm⟩
  rw [hK3] at hm
  have a4 := l2.o
  refine Cw.cond (b := y1) rfl (fun hc5 => ?_) (fun hc5 => ?_)
  ·replace hm := bt hm hc5
   refine Cw.seq (Cw.region (Lw.g (vI (-1)) rfl (Lw.nil ?_)))
   cases hm
   exact Cw.ret (ret1 rfl (Res.mk a4 rfl))
  ·replace hm := bf hm hc5
   refine Cw.skip (Cw.seq (Cw.region (Lw.g (vI 0) rfl (Lw.nil (Cw.seq (Cw.seq (Cw.region (Lw.m v1_ rfl (Lw.m v2_ rfl (Lw.m v3_ rfl ?_))))))))))
   obtain ⟨z9, e10, hm⟩ := ob hm
   refine Lw.t rfl (T.call rfl (p69 (K := [0]) (k0 := 2) (h1.ul a4) (h2.ul a4) (h3.ul a4) e10)) ?_
   rintro v0_11 _ ⟨W11, rfl, l11, ⟨_, rfl, f11_0⟩⟩
   have a12 := a4.n l11
   refine Lw.ln z9 f11_0.rd rfl (Lw.m (vI 0) rfl (Lw.nil (Cw.block ?_)))
   obtain ⟨K19, hK19, hm⟩ := jn_e hm
   refine Cw.loop 29 47 [9, 11, 12, 13, 29] (fun m l w => ∃ (y13 : Int) (y17 : Int) (j14 j15 j16 : Value) (W18 : CW), W18.w = w ∧ Le [3] W11 W18 ∧ l = [vI y13, j14, j15, j16, vI y17] ∧ Vm.impl_MemoLeft_l1 x0 z9 K19 m y13 y17 = some r) (((z9.length : Int) - 0).toNat + 1) ⟨0, 0, undef, undef, undef, W11, rfl, Le.refl _ _, rfl, hm⟩ ?_
   rintro m20 _ _ σ ⟨y13, y17, j14, j15, j16, W18, rfl, l18, rfl, hm⟩
   obtain _ | m20 := m20
   ·cases hm
   unfold Vm.impl_MemoLeft_l1 at hm
   have a21 := a12.t l18 rfl
   refine Cw.seq (Cw.region (Lw.lt rfl (Lw.nil (Cw.seq (Cw.cond (b := decide ((y17 : Int) < ((z9.length : Int) : Int))) rfl (fun hc23 => ?_) (fun hc23 => ?_))))))
   ·replace hm := bt hm hc23
    refine Cw.skip ?_
    obtain ⟨K29, hK29, hm⟩ := jn_e hm
    refine Cw.join 31 46 [9, 11, 12, 13] (fun l w => ∃ (y24 : Int) (j25 j26 j27 : Value) (W28 : CW), W28.w = w ∧ Le [3] W18 W28 ∧ l = [vI y24, j25, j26, j27] ∧ K29 y24 = some r) ?_ ?_
    ·rintro _ _ σ ⟨y24, j25, j26, j27, W28, rfl, l28, rfl, hm⟩
     rw [hK29] at hm
     refine Cw.region (Lw.add rfl (Lw.m (vI (w64 (y17 + 1))) rfl (Lw.nil (⟨?_, m20, Nat.lt_succ_self m20, ⟨y24, w64 (y17 + 1), j25, j26, j27, W28, rfl, (l18.trans l28), rfl, hm⟩⟩))))
     iterate 2 (refine Agree.up rfl ?_)
     iterate 4 (refine Agree.up rfl ?_)
     refine Agree.ov0 rfl ?_
     iterate 1 (refine Agree.up rfl ?_)
     iterate 5 (refine Agree.up rfl ?_)
     exact Agree.base
    ·refine Cw.block (Cw.seq (Cw.region ?_))
     obtain ⟨u32, e33, hm⟩ := ob hm
     refine Lw.r rfl (R.ix (α := Part) (f11_0.up l18 rfl).rd e33 rfl rfl rfl) ?_
     obtain ⟨x34, c35, _, r36⟩ := ((f11_0.up l18 rfl).rd.at_ e33).cells
     obtain ⟨v37, v39, v41, v43, rfl, r38, r40, r42, r44⟩ := Part.split r36
     refine Lw.r rfl (R.lda c35 rfl rfl) (Lw.t rfl (T.alloc 3 (cs := [vB false, .slice none 0 0, .slice none 0 0, .slice none 0 0, .slice none 0 0]) rfl) ?_)
     rintro _ _ ⟨g45, W45, rfl, rfl, l45, b45⟩
     have a46 := a21.n l45
     refine Lw.u (T.sta (vs := [vB u32.Clash, v37, v39, v41, v43]) b45 rfl rfl (oc_cons rfl (oc_cons r38.oc (oc_cons r40.oc (oc_cons r42.oc (oc_cons r44.oc oc_nil))))) rfl rfl) ?_
     rintro _ _ ⟨W48, rfl, l48, b48⟩
     have a49 := a46.t l48 rfl
     refine Lw.nil (Cw.seq (Cw.region (Lw.m v0_ rfl (Lw.r rfl (R.lda (cs := [vB u32.Clash, v37, v39, v41, v43]) b48.cells rfl rfl) ?_))))
     have s52 := r38.up ((l45.sub (M := [3]) rfl).trans (l48.sub (M := [3]) rfl)) rfl
     have s53 := r40.up ((l45.sub (M := [3]) rfl).trans (l48.sub (M := [3]) rfl)) rfl
     have s54 := r42.up ((l45.sub (M := [3]) rfl).trans (l48.sub (M := [3]) rfl)) rfl
     have s55 := r44.up ((l45.sub (M := [3]) rfl).trans (l48.sub (M := [3]) rfl)) rfl
     obtain ⟨z56, e57, hm⟩ := ob hm
     refine Lw.t rfl (T.call rfl (p70 (K := [0, 2])  ((h0.ul a49).sub (M := [0, 2]) rfl) ((Part.rd (K := [2]) u32.Clash u32.Lines u32.Old u32.One u32.Two s52 s53 s54 s55).sub (M := [0, 2]) rfl) e57)) ?_
     rintro _ _ ⟨W58, rfl, l58, ⟨v0_58, rfl, f58_0⟩⟩
     have s59 := f58_0.sub (M := [0, 2]) rfl
     refine Lw.m (.tuple [v0_58, vB z56.2].toArray) rfl (Lw.r rfl (R.ext (vs := [v0_58, vB z56.2]) (v := v0_58) rfl rfl) (Lw.r rfl (R.ext (vs := [v0_58, vB z56.2]) (v := vB z56.2) rfl rfl) (Lw.g v0_58 rfl (Lw.g (vB z56.2) rfl (Lw.nil ?_)))))
     obtain ⟨K65, hK65, hm⟩ := jn_e hm
     refine Cw.join 39 44 [44] (fun l w => ∃ (y63 : Bool) (W64 : CW), W64.w = w ∧ Le [] W58 W64 ∧ l = [vB y63] ∧ K65 y63 = some r) ?_ ?_
     ·rintro _ _ σ ⟨y63, W64, rfl, l64, rfl, hm⟩
      rw [hK65] at hm
      refine Cw.cond (b := y63) rfl (fun hc69 => ?_) (fun hc69 => ?_)
      ·replace hm := bt hm hc69
       refine Cw.region (Lw.m (vI y13) rfl (Lw.add rfl (Lw.g (vI (w64 (y13 + 1))) rfl (Lw.nil (⟨?_, ⟨w64 (y13 + 1), ptr (bx g45), v0_58, vB z56.2, W64, rfl, ((l45.sub rfl).trans (l48.trans ((l58.sub rfl).trans (l64.sub rfl)))), rfl, hm⟩⟩)))))
       iterate 3 (refine Agree.up rfl ?_)
       iterate 1 (refine Agree.up rfl ?_)
       refine Agree.ov0 rfl ?_
       iterate 11 (refine Agree.up rfl ?_)
       exact Agree.refl _
      ·replace hm := bf hm hc69
       refine Cw.skip (⟨?_, ⟨y13, ptr (bx g45), v0_58, vB z56.2, W64, rfl, ((l45.sub rfl).trans (l48.trans ((l58.sub rfl).trans (l64.sub rfl)))), rfl, hm⟩⟩)
       iterate 1 (refine Agree.up rfl ?_)
       refine Agree.ov0 rfl ?_
       iterate 11 (refine Agree.up rfl ?_)
       exact Agree.refl _
     ·refine Cw.region (Lw.fa rfl (Lw.r rfl (R.ld (v := vB u32.Clash) rfl rfl ((b48.up l58 rfl).cell rfl)) (Lw.m (vB u32.Clash) rfl (bsplit u32.Clash (fun hc70 => ?_) (fun hc70 => ?_)))))
      ·replace hm := bt hm hc70
       refine Lw.want' hc70 rfl rfl rfl rfl (Lw.m (vB z56.2) rfl (Lw.want' hc70 rfl rfl rfl rfl (Lw.r rfl (R.not rfl) (Lw.p hc70 (vB (!z56.2)) rfl (Lw.nil (⟨?_, ⟨(!z56.2), W58, rfl, Le.refl _ _, rfl, hm⟩⟩))))))
       iterate 6 (refine Agree.up rfl ?_)
       exact Agree.refl _
      ·replace hm := bf hm hc70
       refine Lw.pass' hc70 rfl rfl rfl rfl rfl rfl rfl (Lw.pass' hc70 rfl rfl rfl rfl rfl rfl rfl (Lw.p hc70 (vB false) rfl (Lw.nil (⟨?_, ⟨false, W58, rfl, Le.refl _ _, rfl, hm⟩⟩))))
       iterate 6 (refine Agree.up rfl ?_)
       exact Agree.refl _
   ·replace hm := bf hm hc23
    refine Cw.exit ?_
    rw [hK19] at hm
    refine Cw.seq (Cw.region (Lw.m (vI y13) rfl (Lw.g (vI y13) rfl (Lw.nil ?_))))
    cases hm
    exact Cw.ret (ret1 rfl (Res.mk a21 rfl))
 ·refine Cw.region (Lw.m v0_ rfl ?_)
  obtain ⟨z71, e72, hm⟩ := ob hm
  refine Lw.t rfl (T.call rfl (p15 (K := [0])  h0 e72)) ?_
  rintro _ _ ⟨W73, rfl, l73, rfl⟩
  have a74 := l73.o
  refine Lw.r rfl (R.not rfl) (Lw.m (vB (!z71)) rfl (bsplit (!z71) (fun hc75 => ?_) (fun hc75 => ?_)))
  ·replace hm := bt hm hc75
   refine Lw.pass' hc75 rfl rfl rfl rfl rfl rfl rfl (Lw.pass' hc75 rfl rfl rfl rfl rfl rfl rfl (Lw.pass' hc75 rfl rfl rfl rfl rfl rfl rfl (Lw.pass' hc75 rfl rfl rfl rfl rfl rfl rfl (Lw.pass' hc75 rfl rfl rfl rfl rfl rfl rfl (Lw.p hc75 (vB true) rfl (Lw.nil (⟨?_, ⟨true, W73, rfl, l73, rfl, hm⟩⟩)))))))
   iterate 10 (refine Agree.up rfl ?_)
   exact Agree.refl _
  ·replace hm := bf hm hc75
   refine Lw.want' hc75 rfl rfl rfl rfl (Lw.m v1_ rfl (Lw.want' hc75 rfl rfl rfl rfl (Lw.m v2_ rfl (Lw.want' hc75 rfl rfl rfl rfl (Lw.m v3_ rfl (Lw.want' hc75 rfl rfl rfl rfl ?_))))))
   obtain ⟨z79, e80, hm⟩ := ob hm
   refine Lw.t rfl (T.call rfl (p54 (K := [0])  (h1.ul a74) (h2.ul a74) (h3.ul a74) e80)) ?_
   rintro _ _ ⟨W81, rfl, l81, rfl⟩
   refine Lw.want' hc75 rfl rfl rfl rfl (Lw.r rfl (R.not rfl) (Lw.p hc75 (vB (!z79)) rfl (Lw.nil (⟨?_, ⟨(!z79), W81, rfl, (l73.trans l81), rfl, hm⟩⟩))))
   iterate 10 (refine Agree.up rfl ?_)
   exact Agree.refl _

theorem p30 {W : CW} {K : List Nat} {x0 : List Vm.Memo} {v0_ : Value} {x1 : List Str} {v1_ : Value} {x2 : List Str} {v2_ : Value} {x3 : List Str} {v3_ : Value} {r : Int} (h0 : Rd W K [v0_] x0) (h1 : Rd W K [v1_] x1) (h2 : Rd W K [v2_] x2) (h3 : Rd W K [v3_] x3) (hm : Vm.impl_MemoLeft x0 x1 x2 x3 = some r) : CallR Try.prog 30 [v0_, v1_, v2_, v3_].toArray W.w (Res W [] fun W' v => v = vI r) :=
 (c30 (V := W.view K []) (h0.view _) (h1.view _) (h2.view _) (h3.view _) hm).ad (fk 0) fun _ _ e => e

theorem c6 {V : CW} {x0 : List Vm.Memo} {v0_ : Value} {x1 : List Str} {v1_ : Value} {x2 : List Str} {v2_ : Value} {x3 : List Str} {v3_ : Value} {r : Bool} (h0 : Rd V [0] [v0_] x0) (h1 : Rd V [0] [v1_] x1) (h2 : Rd V [0] [v2_] x2) (h3 : Rd V [0] [v3_] x3) (hm : Vm.laws_FnExactMemoLeft x0 x1 x2 x3 = some r) : CallR Try.prog 6 [v0_, v1_, v2_, v3_].toArray V.w (Res V LL fun Wf v => v = vB r) := by
 unfold Vm.laws_FnExactMemoLeft at hm
 obtain ⟨W0, hW0⟩ : ∃ W, W = V := ⟨V, rfl⟩
 subst hW0
 refine CallR.of Try.func6 rfl rfl rfl rfl (Cw.seq (Cw.region (Lw.g (vB false) rfl (Lw.nil (Cw.seq (Cw.region (Lw.g (vI 1048576) rfl (Lw.nil (Cw.seq (Cw.region (Lw.m v0_ rfl (Lw.m (vI 1048576) rfl ?_))))))))))))
 obtain ⟨z1, e2, hm⟩ := ob hm
 refine Lw.t rfl (T.call rfl (p12 (K := [0])  h0 e2)) ?_
 rintro _ _ ⟨W3, rfl, l3, rfl⟩
 have a4 := l3.o
 refine Lw.g (vI z1) rfl (Lw.nil (Cw.seq (Cw.seq (Cw.region (Lw.m (vI z1) rfl (Lw.lt rfl (Lw.nil (Cw.cond (b := decide ((z1 : Int) < (0 : Int))) rfl (fun hc5 => ?_) (fun hc5 => ?_)))))))))
 ·replace hm := bt hm hc5
  refine Cw.seq (Cw.region (Lw.g (vB true) rfl (Lw.nil ?_)))
  cases hm
  exact Cw.ret (ret1 rfl (Res.mk a4 rfl))
 ·replace hm := bf hm hc5
  refine Cw.skip (Cw.seq (Cw.region (Lw.m v1_ rfl (Lw.m (vI z1) rfl ?_))))
  obtain ⟨z7, e8, hm⟩ := ob hm
  refine Lw.t rfl (T.call rfl (p27 (K := [0])  (h1.ul a4) e8)) ?_
  rintro _ _ ⟨W9, rfl, l9, rfl⟩
  have a10 := a4.n l9
  refine Lw.g (vI z7) rfl (Lw.nil (Cw.seq (Cw.seq (Cw.region (Lw.m (vI z7) rfl (Lw.lt rfl (Lw.nil (Cw.cond (b := decide ((z7 : Int) < (0 : Int))) rfl (fun hc11 => ?_) (fun hc11 => ?_)))))))))
  ·replace hm := bt hm hc11
   refine Cw.seq (Cw.region (Lw.g (vB true) rfl (Lw.nil ?_)))
   cases hm
   exact Cw.ret (ret1 rfl (Res.mk a10 rfl))
  ·replace hm := bf hm hc11
   refine Cw.skip (Cw.seq (Cw.region (Lw.m v2_ rfl (Lw.m (vI z7) rfl ?_))))
   obtain ⟨z13, e14, hm⟩ := ob hm
   refine Lw.t rfl (T.call rfl (p27 (K := [0])  (h2.ul a10) e14)) ?_
   rintro _ _ ⟨W15, rfl, l15, rfl⟩
   have a16 := a10.n l15
   refine Lw.g (vI z13) rfl (Lw.nil (Cw.seq (Cw.seq (Cw.region (Lw.m (vI z13) rfl (Lw.lt rfl (Lw.nil (Cw.cond (b := decide ((z13 : Int) < (0 : Int))) rfl (fun hc17 => ?_) (fun hc17 => ?_)))))))))
   ·replace hm := bt hm hc17
    refine Cw.seq (Cw.region (Lw.g (vB true) rfl (Lw.nil ?_)))
    cases hm
    exact Cw.ret (ret1 rfl (Res.mk a16 rfl))
   ·replace hm := bf hm hc17
    refine Cw.skip (Cw.seq (Cw.region (Lw.m v3_ rfl (Lw.m (vI z13) rfl ?_))))
    obtain ⟨z19, e20, hm⟩ := ob hm
    refine Lw.t rfl (T.call rfl (p27 (K := [0])  (h3.ul a16) e20)) ?_
    rintro _ _ ⟨W21, rfl, l21, rfl⟩
    have a22 := a16.n l21
    refine Lw.g (vI z19) rfl (Lw.nil (Cw.seq (Cw.seq (Cw.region (Lw.m (vI z19) rfl (Lw.lt rfl (Lw.nil (Cw.cond (b := decide ((z19 : Int) < (0 : Int))) rfl (fun hc23 => ?_) (fun hc23 => ?_)))))))))
    ·replace hm := bt hm hc23
     refine Cw.seq (Cw.region (Lw.g (vB true) rfl (Lw.nil ?_)))
     cases hm
     exact Cw.ret (ret1 rfl (Res.mk a22 rfl))
    ·replace hm := bf hm hc23
     refine Cw.skip (Cw.seq (Cw.region (Lw.m v0_ rfl ?_)))
     obtain ⟨z25, e26, hm⟩ := ob hm
     refine Lw.t rfl (T.call rfl (p14 (K := [0]) (k0 := 2) (h0.ul a22) e26)) ?_
     rintro v0_27 _ ⟨W27, rfl, l27, ⟨_, rfl, f27_0⟩⟩
     have a28 := a22.n l27
     refine Lw.m v1_ rfl ?_
     obtain ⟨z30, e31, hm⟩ := ob hm
     refine Lw.t rfl (T.call rfl (p29 (K := [0]) (k0 := 3) (h1.ul a28) e31)) ?_
     rintro v0_32 _ ⟨W32, rfl, l32, ⟨_, rfl, f32_0⟩⟩
     have a33 := a28.n l32
     refine Lw.m v2_ rfl ?_
     obtain ⟨z36, e37, hm⟩ := ob hm
     refine Lw.t rfl (T.call rfl (p29 (K := [0]) (k0 := 4) (h2.ul a33) e37)) ?_
     rintro v0_38 _ ⟨W38, rfl, l38, ⟨_, rfl, f38_0⟩⟩
     have a39 := a33.n l38
     refine Lw.m v3_ rfl ?_
     obtain ⟨z43, e44, hm⟩ := ob hm
     refine Lw.t rfl (T.call rfl (p29 (K := [0]) (k0 := 5) (h3.ul a39) e44)) ?_
     rintro v0_45 _ ⟨W45, rfl, l45, ⟨_, rfl, f45_0⟩⟩
     have a46 := a39.n l45
     obtain ⟨z50, e51, hm⟩ := ob hm
     refine Lw.t rfl (T.call rfl (p28 (K := [2, 3, 4, 5])  ((((f27_0.up l32 rfl).up l38 rfl).up l45 rfl).rd.sub (M := [2, 3, 4, 5]) rfl) (((f32_0.up l38 rfl).up l45 rfl).rd.sub (M := [2, 3, 4, 5]) rfl) ((f38_0.up l45 rfl).rd.sub (M := [2, 3, 4, 5]) rfl) (f45_0.rd.sub (M := [2, 3, 4, 5]) rfl) e51)) ?_
     rintro _ _ ⟨W52, rfl, l52, rfl⟩
     have a53 := a46.n l52
     refine Lw.g (vI z50) rfl (Lw.nil (Cw.seq (Cw.region (Lw.m v0_ rfl ?_))))
     obtain ⟨z59, e60, hm⟩ := ob hm
     refine Lw.t rfl (T.call rfl (p14 (K := [0]) (k0 := 6) (h0.ul a53) e60)) ?_
     rintro v0_61 _ ⟨W61, rfl, l61, ⟨_, rfl, f61_0⟩⟩
     have a62 := a53.n l61
     refine Lw.g v0_61 rfl (Lw.nil (Cw.seq (Cw.region (Lw.m v1_ rfl ?_))))
     obtain ⟨z68, e69, hm⟩ := ob hm
     refine Lw.t rfl (T.call rfl (p29 (K := [0]) (k0 := 7) (h1.ul a62) e69)) ?_
     rintro v0_70 _ ⟨W70, rfl, l70, ⟨_, rfl, f70_0⟩⟩
     have a71 := a62.n l70
     refine Lw.g v0_70 rfl (Lw.nil (Cw.seq (Cw.region (Lw.m v2_ rfl ?_))))
     obtain ⟨z78, e79, hm⟩ := ob hm
     refine Lw.t rfl (T.call rfl (p29 (K := [0]) (k0 := 8) (h2.ul a71) e79)) ?_
     rintro v0_80 _ ⟨W80, rfl, l80, ⟨_, rfl, f80_0⟩⟩
     have a81 := a71.n l80
     refine Lw.g v0_80 rfl (Lw.nil (Cw.seq (Cw.region (Lw.m v3_ rfl ?_))))
     obtain ⟨z89, e90, hm⟩ := ob hm
     refine Lw.t rfl (T.call rfl (p29 (K := [0]) (k0 := 9) (h3.ul a81) e90)) ?_
     rintro v0_91 _ ⟨W91, rfl, l91, ⟨_, rfl, f91_0⟩⟩
     have a92 := a81.n l91
     have o97 := ((f61_0.up l70 rfl).up l80 rfl).up l91 rfl
     have o98 := (f70_0.up l80 rfl).up l91 rfl
     refine Lw.g v0_91 rfl (Lw.nil (Cw.seq (Cw.region (Lw.m v0_61 rfl (Lw.m v0_70 rfl (Lw.m v0_80 rfl (Lw.m v0_91 rfl ?_)))))))
     obtain ⟨z100, e101, hm⟩ := ob hm
     refine Lw.t rfl (T.call rfl (p30 (K := [6, 7, 8, 9])  (o97.rd.sub (M := [6, 7, 8, 9]) rfl) (o98.rd.sub (M := [6, 7, 8, 9]) rfl) ((f80_0.up l91 rfl).rd.sub (M := [6, 7, 8, 9]) rfl) (f91_0.rd.sub (M := [6, 7, 8, 9]) rfl) e101)) ?_
     rintro _ _ ⟨W102, rfl, l102, rfl⟩
     have a103 := a92.n l102
     refine Lw.g (vI z100) rfl (Lw.nil (Cw.seq (Cw.seq (Cw.region (Lw.m (vI z100) rfl (Lw.m (vI z50) rfl (Lw.ne rfl (Lw.nil (Cw.cond (b := ((z100 : Int) != (z50 : Int))) rfl (fun hc112 => ?_) (fun hc112 => ?_))))))))))
     ·replace hm := bt hm hc112
      refine Cw.seq (Cw.region (Lw.g (vB false) rfl (Lw.nil ?_)))
      cases hm
      exact Cw.ret (ret1 rfl (Res.mk a103 rfl))
     ·replace hm := bf hm hc112
      refine Cw.skip (Cw.seq (Cw.seq (Cw.region (Lw.m v0_61 rfl (Lw.m v0_ rfl ?_)))))
      obtain ⟨z114, e115, hm⟩ := ob hm
      refine Lw.t rfl (T.call rfl (p14 (K := [0]) (k0 := 10) (h0.ul a103) e115)) ?_
      rintro v0_116 _ ⟨W116, rfl, l116, ⟨_, rfl, f116_0⟩⟩
      have a117 := a103.n l116
      obtain ⟨z126, e127, hm⟩ := ob hm
      refine Lw.t rfl (T.call rfl (p16 (K := [6, 10])  (((o97.up l102 rfl).up l116 rfl).rd.sub (M := [6, 10]) rfl) (f116_0.rd.sub (M := [6, 10]) rfl) e127)) ?_
      rintro _ _ ⟨W128, rfl, l128, rfl⟩
      have a129 := a117.n l128
      refine Lw.r rfl (R.not rfl) (Lw.nil (Cw.cond (b := (!z126)) rfl (fun hc139 => ?_) (fun hc139 => ?_)))
      ·replace hm := bt hm hc139
       refine Cw.seq (Cw.region (Lw.g (vB false) rfl (Lw.nil ?_)))
       cases hm
       exact Cw.ret (ret1 rfl (Res.mk a129 rfl))
      ·replace hm := bf hm hc139
       refine Cw.skip (Cw.seq (Cw.seq (Cw.region (Lw.m v0_70 rfl (Lw.m v1_ rfl ?_)))))
       obtain ⟨z141, e142, hm⟩ := ob hm
       refine Lw.t rfl (T.call rfl (p29 (K := [0]) (k0 := 11) (h1.ul a129) e142)) ?_
       rintro v0_143 _ ⟨W143, rfl, l143, ⟨_, rfl, f143_0⟩⟩
       have a144 := a129.n l143
       obtain ⟨z154, e155, hm⟩ := ob hm
       refine Lw.t rfl (T.call rfl (p31 (K := [7, 11])  (((((o98.up l102 rfl).up l116 rfl).up l128 rfl).up l143 rfl).rd.sub (M := [7, 11]) rfl) (f143_0.rd.sub (M := [7, 11]) rfl) e155)) ?_
       rintro _ _ ⟨W156, rfl, l156, rfl⟩
       have a157 := a144.n l156
       refine Lw.r rfl (R.not rfl) (Lw.nil (Cw.cond (b := (!z154)) rfl (fun hc168 => ?_) (fun hc168 => ?_)))
       ·replace hm := bt hm hc168
        refine Cw.seq (Cw.region (Lw.g (vB false) rfl (Lw.nil ?_)))
        cases hm
        exact Cw.ret (ret1 rfl (Res.mk a157 rfl))
       ·replace hm := bf hm hc168
        refine Cw.skip (Cw.seq (Cw.seq (Cw.region (Lw.m v0_80 rfl (Lw.m v2_ rfl ?_)))))
        obtain ⟨z170, e171, hm⟩ := ob hm
        refine Lw.t rfl (T.call rfl (p29 (K := [0]) (k0 := 12) (h2.ul a157) e171)) ?_
        rintro v0_172 _ ⟨W172, rfl, l172, ⟨_, rfl, f172_0⟩⟩
        have a173 := a157.n l172
        obtain ⟨z184, e185, hm⟩ := ob hm
        refine Lw.t rfl (T.call rfl (p31 (K := [8, 12])  ((((((((f80_0.up l91 rfl).up l102 rfl).up l116 rfl).up l128 rfl).up l143 rfl).up l156 rfl).up l172 rfl).rd.sub (M := [8, 12]) rfl) (f172_0.rd.sub (M := [8, 12]) rfl) e185)) ?_
        rintro _ _ ⟨W186, rfl, l186, rfl⟩
        have a187 := a173.n l186
        refine Lw.r rfl (R.not rfl) (Lw.nil (Cw.cond (b := (!z184)) rfl (fun hc199 => ?_) (fun hc199 => ?_)))
        ·replace hm := bt hm hc199
         refine Cw.seq (Cw.region (Lw.g (vB false) rfl (Lw.nil ?_)))
         cases hm
         exact Cw.ret (ret1 rfl (Res.mk a187 rfl))
        ·replace hm := bf hm hc199
         refine Cw.skip (Cw.seq (Cw.seq (Cw.region (Lw.m v0_91 rfl (Lw.m v3_ rfl ?_)))))
         obtain ⟨z201, e202, hm⟩ := ob hm
         refine Lw.t rfl (T.call rfl (p29 (K := [0]) (k0 := 13) (h3.ul a187) e202)) ?_
         rintro v0_203 _ ⟨W203, rfl, l203, ⟨_, rfl, f203_0⟩⟩
         have a204 := a187.n l203
         obtain ⟨z216, e217, hm⟩ := ob hm
         refine Lw.t rfl (T.call rfl (p31 (K := [9, 13])  (((((((((f91_0.up l102 rfl).up l116 rfl).up l128 rfl).up l143 rfl).up l156 rfl).up l172 rfl).up l186 rfl).up l203 rfl).rd.sub (M := [9, 13]) rfl) (f203_0.rd.sub (M := [9, 13]) rfl) e217)) ?_
         rintro _ _ ⟨W218, rfl, l218, rfl⟩
         have a219 := a204.n l218
         refine Lw.r rfl (R.not rfl) (Lw.nil (Cw.cond (b := (!z216)) rfl (fun hc232 => ?_) (fun hc232 => ?_)))
         ·replace hm := bt hm hc232
          refine Cw.seq (Cw.region (Lw.g (vB false) rfl (Lw.nil ?_)))
          cases hm
          exact Cw.ret (ret1 rfl (Res.mk a219 rfl))
         ·replace hm := bf hm hc232
          refine Cw.skip (Cw.seq (Cw.region (Lw.g (vB true) rfl (Lw.nil ?_))))
          cases hm
          exact Cw.ret (ret1 rfl (Res.mk a219 rfl))

theorem p6 {W : CW} {K : List Nat} {x0 : List Vm.Memo} {v0_ : Value} {x1 : List Str} {v1_ : Value} {x2 : List Str} {v2_ : Value} {x3 : List Str} {v3_ : Value} {r : Bool} (h0 : Rd W K [v0_] x0) (h1 : Rd W K [v1_] x1) (h2 : Rd W K [v2_] x2) (h3 : Rd W K [v3_] x3) (hm : Vm.laws_FnExactMemoLeft x0 x1 x2 x3 = some r) : CallR Try.prog 6 [v0_, v1_, v2_, v3_].toArray W.w (Res W [] fun W' v => v = vB r) :=
 (c6 (V := W.view K []) (h0.view _) (h1.view _) (h2.view _) (h3.view _) hm).ad (fk 0) fun _ _ e => e

end Go.Sx
