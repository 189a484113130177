/- Walks: each function answers as its model, printed by a program of ours. Conditions: the arguments read as they are given. -/
import Derived.Test.YtkfeiopifiejgaaGreatDoorXTs
import Derived.Test.YtkfeiopifiejgaaGreatDoorXM15
import Derived.Test.YtkfeiopifiejgaaGreatDoorXW10
import Derived.Test.YtkfeiopifiejgaaGreatDoorXW11
import Derived.Test.YtkfeiopifiejgaaGreatDoorXW13
import Derived.Test.YtkfeiopifiejgaaGreatDoorXW15
import Derived.Test.YtkfeiopifiejgaaGreatDoorXW6
import Derived.Test.YtkfeiopifiejgaaGreatDoorXW7
namespace Go.Sx
open Go Go.Proofs Go.Vm Rp
set_option linter.unusedVariables false
set_option linter.unusedSimpArgs false

variable {W W0 : CW} {K : List Nat}
theorem c8 {x0 v0_ x1 v1_ r} (h0 : Rd W0 [0] [v0_] x0) (h1 : Rd W0 [0] [v1_] x1) (h99 : Gl 0 W0 [0]) (hm : Vm.laws_FnLogLeft x0 x1 = some r) : Q0 8 [v0_, v1_] W0 fun Wf v => v = vB r := by
 unfold Vm.laws_FnLogLeft at hm
 refine CallR.of Tryz.func8 rfl rfl rfl rfl (sr (Nb rfl (Cw.seq ?_)))
 obtain ⟨K3, hK3, hm⟩ := jn_e hm
 refine Cw.join 14 21 [21] (fun l w => ∃ y1 W2, CW.w W2 = w ∧ Le [] W0 W2 ∧ l = [vB y1] ∧ K3 y1 = some r) ?_ ?_
 ·rintro _ _ σ ⟨y1, W2, rfl, l2, rfl, hm⟩
  rw [hK3] at hm
  have a4 := l2.o
  refine cn hm (fun hm => ?_) fun hm => ?_
  ·exact sr (Nb rfl (.ret (rt hm a4)))
  ·refine sk (sr (mv v0_ rfl (cr hm (fun _ => p30 (k0 := 2) (k1 := 3) (k2 := 4) (h0.ul a4)) ?_)))
   rintro z7 _ W9 hm l9 ⟨v0_0_9, v0_1_9, v1_9, rfl, f9_0, f9_1, f9_2⟩
   have a10 := a4.n l9
   refine mv (.tuple [.agg [v0_0_9, v0_1_9].toArray, v1_9, vI z7.2.2].toArray) rfl (Lw.r rfl (R.ext (vs := [.agg [v0_0_9, v0_1_9].toArray, v1_9, vI z7.2.2]) (v := .agg [v0_0_9, v0_1_9].toArray) rfl rfl) (Lw.r rfl (R.ext (vs := [.agg [v0_0_9, v0_1_9].toArray, v1_9, vI z7.2.2]) (v := v1_9) rfl rfl) (Lw.r rfl (R.ext (vs := [.agg [v0_0_9, v0_1_9].toArray, v1_9, vI z7.2.2]) (v := vI z7.2.2) rfl rfl) (al 5 [.slice none 0 0, .slice none 0 0] fun g11 W11 l11 b11 => ?_))))
   have a12 := a10.n l11
   refine sta b11 (oc_cons (f9_0.up l11).oc (oc_cons (f9_1.up l11).oc oc_nil)) fun W16 l16 b16 => ?_
   have a17 := a12.t l16
   have o18 := (f9_0.up l11).up l16
   have o19 := (f9_1.up l11).up l16
   have o20 := (f9_2.up l11).up l16
   refine Gv v1_9 rfl (Ni rfl (sr (la b16 (mv v1_9 rfl (mi rfl (cr hm (fun _ => p31 (K := [0, 2, 3, 4]) (k0 := 6) (x0 := (Vm.Repo.mk z7.1.Commits z7.1.Heads)) ((Repo.rd (K := [2, 3]) z7.1.Commits z7.1.Heads (o18.rd.sub (M := [2, 3]) rfl) (o19.rd.sub (M := [2, 3]) rfl)).sub (M := [0, 2, 3, 4]) rfl) (o20.rd.sub (M := [0, 2, 3, 4]) rfl) ((h99.ul a17).sub (M := [0, 2, 3, 4]) rfl)) ?_))))))
   rintro z22 v0_24 W24 hm l24 ⟨_, rfl, f24_0⟩
   have a25 := a17.n l24
   have o26 := o18.up l24
   have o27 := o19.up l24
   have o28 := o20.up l24
   have b29 := b16.up l24
   refine Nv v0_24 rfl (Cw.seq ?_)
   obtain ⟨K32, hK32, hm⟩ := jn_e hm
   refine Cw.join 32 58 [58] (fun l w => ∃ y30 W31, CW.w W31 = w ∧ Le [] W24 W31 ∧ l = [vB y30] ∧ K32 y30 = some r) ?_ ?_
   ·rintro _ _ σ ⟨y30, W31, rfl, l31, rfl, hm⟩
    rw [hK32] at hm
    have a33 := a25.n l31
    refine cn hm (fun hm => ?_) fun hm => ?_
    ·refine sr (mv v0_24 rfl (la (b29.up l31) (mv v1_9 rfl (mi rfl (cr hm (fun _ => p32 (K := [2, 3, 4]) (k0 := 7) (x0 := (Vm.Repo.mk z7.1.Commits z7.1.Heads)) ((Repo.rd (K := [2, 3]) z7.1.Commits z7.1.Heads ((o26.up l31).rd.sub (M := [2, 3]) rfl) ((o27.up l31).rd.sub (M := [2, 3]) rfl)).sub (M := [2, 3, 4]) rfl) ((o28.up l31).rd.sub (M := [2, 3, 4]) rfl)) ?_)))))
     rintro z40 v0_42 W42 hm l42 ⟨_, rfl, f42_0⟩
     have a43 := a33.n l42
     refine ca hm (fun _ => p12 (K := [6, 7]) (((f24_0.up l31).up l42).rd.sub (M := [6, 7]) rfl) (f42_0.rd.sub (M := [6, 7]) rfl)) fun z49 W51 hm l51 => ?_
     have a52 := a43.n l51
     exact Nb rfl (.ret (rt hm a52))
    ·refine sk (ssr (Ni rfl (Cw.block ?_)))
     obtain ⟨K62, hK62, hm⟩ := jn_e hm
     refine Cw.loop 65 85 [4, 9] (fun m l w => ∃ y59 y60 W61, CW.w W61 = w ∧ Le [] W31 W61 ∧ l = [vB y59, vI y60] ∧ Vm.laws_FnLogLeft_l1 z7 K62 m y59 y60 = some r) _ ⟨false, 0, W31, rfl, Le.refl _ _, rfl, hm⟩ ?_
     rintro (_ | m63) _ _ σ ⟨y59, y60, W61, rfl, l61, rfl, hm⟩
     ·cases hm
     unfold Vm.laws_FnLogLeft_l1 at hm
     have a64 := a33.n l61
     have o65 := (o26.up l31).up l61
     have o67 := (o28.up l31).up l61
     have b69 := (b29.up l31).up l61
     refine ssr (mi rfl (mv v1_9 rfl (Lw.ln z7.2.1 o67.rd rfl (Lw.lt rfl (nl (cn hm (fun hm => ?_) fun hm => ?_))))))
     ·refine sk (Cw.seq (Cw.block ?_))
      obtain ⟨K73, hK73, hm⟩ := jn_e hm
      refine Cw.join 71 85 [85] (fun l w => ∃ y71 W72, CW.w W72 = w ∧ Le [] W61 W72 ∧ l = [vB y71] ∧ K73 y71 = some r) ?_ ?_
      ·rintro _ _ σ ⟨y71, W72, rfl, l72, rfl, hm⟩
       rw [hK73] at hm
       have a74 := a64.n l72
       refine cn hm (fun hm => ?_) fun hm => ?_
       ·exact sr (Nb rfl (.ret (rt hm a74)))
       ·exact sk (rg (mi rfl (Lw.add rfl (Ni rfl ((agm) ⟨y59, w64 (y60 + 1), W72, rfl, (l61.j l72).w, rfl, hm⟩)))))
      ·refine Cw.draw [] [(0, 0), (1, 0), (2, 0), (3, 1), (4, 0), (5, 0), (6, 0), (7, 0), (8, 0), (9, 1), (10, 0), (11, 1), (12, 0), (13, 0), (14, 0)] mixed (by kernel_rfl) fun W81 l81 => ?_
       have o85 := o67.up l81
       refine Dv v1_9 rfl (Di rfl ?_)
       obtain ⟨u88, e89, hm⟩ := ob hm
       refine Mw.p rfl rfl (fun _ => R.ix (α := Int) o85.rd e89 rfl rfl rfl) (Mw.q rfl rfl (fun _ c => R.ld rfl rfl (cl_cell (o85.rd.at_ e89).1 rfl (o85.rd.at_ e89).int c)) (Mw.p rfl rfl (fun _ => R.lt rfl rfl) (Db rfl (bs hm (fun hc90 hm => ?_) fun hc90 hm => ?_))))
       ·exact dps 8 hc90 rfl (Mw.p rfl rfl (fun _ => R.pk hc90 rfl (v := vB true) rfl) (Mw.nil ((ag) ⟨true, W81, rfl, l81, rfl, hm⟩)))
       ·refine Wp hc90 rfl (fun _ => R.mv (v := v1_9) rfl) (Wp hc90 rfl (fun _ => R.mv (v := vI y60) rfl) ?_)
        obtain ⟨u91, e92, hm⟩ := ob hm
        exact Wp hc90 rfl (fun _ => R.ix (α := Int) o85.rd e92 rfl rfl rfl) (Wq hc90 rfl (fun _ c => R.ld rfl rfl (cl_cell (o85.rd.at_ e92).1 rfl (o85.rd.at_ e92).int c)) (Wp hc90 rfl (fun _ => R.fa rfl) (Wq hc90 rfl (fun _ c => R.ld (v := v0_0_9) rfl rfl ((b69.up l81).clc rfl rfl c)) (Wp hc90 rfl (fun _ => lenR (xs := z7.1.Commits) (o65.up l81).rd rfl) (Wp hc90 rfl (fun _ => R.ge rfl rfl) (Mw.p rfl rfl (fun _ => R.pk hc90 rfl (v := vB (decide (((z7.1.Commits.length : Int) : Int) ≤ (u91 : Int)))) rfl) (Mw.nil ((ag) ⟨decide (((z7.1.Commits.length : Int) : Int) ≤ (u91 : Int)), W81, rfl, l81, rfl, hm⟩))))))))
     ·refine Cw.exit ?_
      rw [hK62] at hm
      refine ssr (Ni rfl (Cw.block ?_))
      obtain ⟨K98, hK98, hm⟩ := jn_e hm
      refine Cw.loop 86 118 [4, 10, 11, 12] (fun m l w => ∃ y93 y94 j95 j96 W97, CW.w W97 = w ∧ Le [] W61 W97 ∧ l = [vB y93, vI y94, j95, j96] ∧ Vm.laws_FnLogLeft_l2 z7 z22 K98 m y93 y94 = some r) _ ⟨y59, 0, undef, undef, W61, rfl, Le.refl _ _, rfl, hm⟩ ?_
      rintro (_ | m99) _ _ σ ⟨y93, y94, j95, j96, W97, rfl, l97, rfl, hm⟩
      ·cases hm
      unfold Vm.laws_FnLogLeft_l2 at hm
      have a100 := a64.n l97
      have o101 := o65.up l97
      have o102 := ((o27.up l31).up l61).up l97
      have o104 := ((f24_0.up l31).up l61).up l97
      have b105 := b69.up l97
      refine ssr (mi rfl (fl b105 rfl (Lw.ln z7.1.Commits o101.rd rfl (Lw.lt rfl (nl (cn hm (fun hm => ?_) fun hm => ?_))))))
      ·refine sk (Cw.seq (Cw.block (sr (la b105 (mi rfl (mi rfl (ca hm (fun _ => p14 (K := [0, 2, 3]) (x0 := (Vm.Repo.mk z7.1.Commits z7.1.Heads)) ((Repo.rd (K := [2, 3]) z7.1.Commits z7.1.Heads (o101.rd.sub (M := [2, 3]) rfl) (o102.rd.sub (M := [2, 3]) rfl)).sub (M := [0, 2, 3]) rfl) ((h99.ul a100).sub (M := [0, 2, 3]) rfl)) fun z108 W110 hm l110 => ?_)))))))
       have a111 := a100.n l110
       refine Nb rfl (ssr (Ni rfl (Cw.block ?_)))
       obtain ⟨K120, hK120, hm⟩ := jn_e hm
       refine Cw.loop 97 113 [11, 12] (fun m l w => ∃ y117 y118 W119, CW.w W119 = w ∧ Le [] W110 W119 ∧ l = [vB y117, vI y118] ∧ Vm.laws_FnLogLeft_l3 z7 y94 K120 m y117 y118 = some r) _ ⟨z108, 0, W110, rfl, Le.refl _ _, rfl, hm⟩ ?_
       rintro (_ | m121) _ _ σ ⟨y117, y118, W119, rfl, l119, rfl, hm⟩
       ·cases hm
       unfold Vm.laws_FnLogLeft_l3 at hm
       have a122 := a111.n l119
       have o125 := ((o67.up l97).up l110).up l119
       refine ssr (mi rfl (mv v1_9 rfl (Lw.ln z7.2.1 o125.rd rfl (Lw.lt rfl (nl (cn hm (fun hm => ?_) fun hm => ?_))))))
       ·refine sk (Cw.seq (Cw.block (Cw.draw [] [(0, 0), (1, 0), (2, 1), (3, 0), (4, 0), (5, 0), (6, 0), (7, 1), (8, 3), (9, 0), (10, 0), (11, 0)] mixed (by kernel_rfl) fun W129 l129 => ?_)))
        have a130 := a122.n l129
        have o133 := o125.up l129
        refine Db rfl (Db rfl (bs hm (fun hc136 hm => ?_) fun hc136 hm => ?_))
        ·refine Wq hc136 rfl (fun _ c => R.lda (cs := [v0_0_9, v0_1_9]) ((((b105.up l110).up l119).up l129).clcs rfl c) rfl rfl) (Wp hc136 rfl (fun _ => R.mv (v := vI y94) rfl) (Wp hc136 rfl (fun _ => R.mv (v := v1_9) rfl) (Wp hc136 rfl (fun _ => R.mv (v := vI y118) rfl) ?_)))
         obtain ⟨u137, e138, hm⟩ := ob hm
         refine Wp hc136 rfl (fun _ => R.ix (α := Int) o133.rd e138 rfl rfl rfl) (Wq hc136 rfl (fun _ c => R.ld rfl rfl (cl_cell (o133.rd.at_ e138).1 rfl (o133.rd.at_ e138).int c)) ?_)
         obtain ⟨z140, e141, hm⟩ := ob hm
         refine Mw.gl hc136 rfl rfl rfl rfl rfl (T.call rfl (p14 (K := [0, 2, 3])  (x0 := (Vm.Repo.mk z7.1.Commits z7.1.Heads)) ((Repo.rd (K := [2, 3]) z7.1.Commits z7.1.Heads ((((o101.up l110).up l119).up l129).rd.sub (M := [2, 3]) rfl) ((((o102.up l110).up l119).up l129).rd.sub (M := [2, 3]) rfl)).sub (M := [0, 2, 3]) rfl) ((h99.ul a130).sub (M := [0, 2, 3]) rfl) e141)) ?_
         rintro _ _ ⟨W142, rfl, l142, rfl⟩
         exact Wp hc136 rfl (fun _ => R.not rfl) (Mw.p rfl rfl (fun _ => R.pk hc136 rfl (v := vB (!z140)) rfl) (Hb rfl (Mw.nil (rg (mi rfl (Lw.add rfl (Ni rfl ((agm) ⟨(!z140), w64 (y118 + 1), W142, rfl, ((l119.j l129).j l142).w, rfl, hm⟩))))))))
        ·exact dps 8 hc136 rfl (Mw.p rfl rfl (fun _ => R.pk hc136 rfl (v := vB false) rfl) (Hb rfl (Mw.nil (rg (mi rfl (Lw.add rfl (Ni rfl ((agm) ⟨false, w64 (y118 + 1), W129, rfl, (l119.j l129).w, rfl, hm⟩))))))))
       ·refine Cw.exit ?_
        rw [hK120] at hm
        refine sr (mb rfl (mv v0_24 rfl (mi rfl (ca hm (fun _ => p26 (K := [6]) ((o104.up l110).up l119).rd) fun z149 W151 hm l151 => ?_))))
        have a152 := a122.n l151
        refine Lw.r rfl (R.bne rfl rfl) (nl (cn hm (fun hm => ?_) fun hm => ?_))
        ·exact sr (Nb rfl (.ret (rt hm a152)))
        ·exact sk (rg (mi rfl (Lw.add rfl (Ni rfl ((agm) ⟨y93, w64 (y94 + 1), vB y117, vI y118, W151, rfl, (((l97.j l110).j l119).j l151).w, rfl, hm⟩)))))
      ·refine Cw.exit ?_
       rw [hK98] at hm
       refine Cw.seq ?_
       obtain ⟨q173, e174, hm⟩ := ob hm
       obtain ⟨_, e183, hm⟩ := ob hm
       obtain ⟨q192, e193, hm⟩ := ob hm
       obtain ⟨z203, e204, hm⟩ := ob hm
       refine Cw.par [[], [], [], [1, 2], [], [4], [], [6], [6, 7], [4, 5, 6, 7, 8], [4, 5, 6, 7, 8, 9], [1, 2, 3, 4, 5, 6, 7, 8, 9, 10], [], [0, 1, 2, 3, 4, 5, 6, 7, 8, 9, 10, 11, 12], [0, 1, 2, 3, 4, 5, 6, 7, 8, 9, 10, 11, 12, 13]] [[], [], [], [1, 2], [], [4], [], [6], [7], [5, 8], [9], [3, 10], [], [0, 11, 12], [13]] [[], [], [], [8], [], [], [], [], [], [], [], [8], [], [], []] [[0], [1], [2], [3], [4], [5], [6], [7], [8], [9], [10], [11], [12], [13], [13, 14]] [[], [8], [], [8], [], [], [], [], [], [], [9], [8], [], [10], []] [0, 2, 4, 5, 6, 7, 8, 9, 10, 11, 12, 13, 14] [8] [fun vs W => (vs 0) = .agg [v0_0_9, v0_1_9].toArray, fun vs W => Ow W 8 [] [(vs 1)] ([] : List Int), fun vs W => (vs 2) = v1_9, fun vs W => Ow W 8 [] [(vs 3)] q173, fun vs W => (vs 4) = v1_, fun vs W => (vs 5) = vI (x1.length : Int), fun vs W => (vs 6) = ptr ((bx g11).add 0), fun vs W => (vs 7) = v0_0_9, fun vs W => (vs 8) = vI (z7.1.Commits.length : Int), fun vs W => (vs 9) = vI (Int.tmod (x1.length : Int) (z7.1.Commits.length : Int)), fun vs W => (vs 10) = .slice (some (bx (pg (vs 10)))) 1 1 ∧ Bx W 9 (pg (vs 10)) [vI (Int.tmod (x1.length : Int) (z7.1.Commits.length : Int))], fun vs W => Ow W 8 [] [(vs 11)] q192, fun vs W => (vs 12) = vI z7.2.2, fun vs W => Ow W 10 [] [(vs 13)] z203, fun vs W => (vs 14) = (vs 13)] [] mixed (by kernel_rfl) rfl AllF.nil ?_
       intro W214 l214
       have a215 := a100.n l214
       have o216 := o101.up l214
       have b220 := b105.up l214
       refine ⟨(Steps.cons ?_ (Steps.cons ?_ (Steps.cons ?_ (Steps.cons ?_ (Steps.cons ?_ (Steps.cons ?_ (Steps.cons ?_ (Steps.cons ?_ (Steps.cons ?_ (Steps.cons ?_ (Steps.cons ?_ (Steps.cons ?_ (Steps.cons ?_ (Steps.cons ?_ (Steps.cons ?_ Steps.nil))))))))))))))), (Sups.cons (fun vs vs' W W' _ hv l hd h => by (show (vs' 0) = .agg [v0_0_9, v0_1_9].toArray); rw [hv 0 (anyb rfl)]; exact h) (Sups.cons (fun vs vs' W W' _ hv l hd h => by (show Ow W' 8 [] [(vs' 1)] ([] : List Int)); rw [hv 1 (anyb rfl)]; exact h.upv l (disj_mem hd (c := 8) rfl)) (Sups.cons (fun vs vs' W W' _ hv l hd h => by (show (vs' 2) = v1_9); rw [hv 2 (anyb rfl)]; exact h) (Sups.cons (fun vs vs' W W' _ hv l hd h => by (show Ow W' 8 [] [(vs' 3)] q173); rw [hv 3 (anyb rfl)]; exact h.upv l (disj_mem hd (c := 8) rfl)) (Sups.cons (fun vs vs' W W' _ hv l hd h => by (show (vs' 4) = v1_); rw [hv 4 (anyb rfl)]; exact h) (Sups.cons (fun vs vs' W W' _ hv l hd h => by (show (vs' 5) = vI (x1.length : Int)); rw [hv 5 (anyb rfl)]; exact h) (Sups.cons (fun vs vs' W W' _ hv l hd h => by (show (vs' 6) = ptr ((bx g11).add 0)); rw [hv 6 (anyb rfl)]; exact h) (Sups.cons (fun vs vs' W W' _ hv l hd h => by (show (vs' 7) = v0_0_9); rw [hv 7 (anyb rfl)]; exact h) (Sups.cons (fun vs vs' W W' _ hv l hd h => by (show (vs' 8) = vI (z7.1.Commits.length : Int)); rw [hv 8 (anyb rfl)]; exact h) (Sups.cons (fun vs vs' W W' _ hv l hd h => by (show (vs' 9) = vI (Int.tmod (x1.length : Int) (z7.1.Commits.length : Int))); rw [hv 9 (anyb rfl)]; exact h) (Sups.cons (fun vs vs' W W' _ hv l hd h => by (show (vs' 10) = .slice (some (bx (pg (vs' 10)))) 1 1 ∧ Bx W' 9 (pg (vs' 10)) [vI (Int.tmod (x1.length : Int) (z7.1.Commits.length : Int))]); rw [hv 10 (anyb rfl)]; exact ⟨h.1, h.2.up l (disj_mem hd (c := 9) rfl)⟩) (Sups.cons (fun vs vs' W W' _ hv l hd h => by (show Ow W' 8 [] [(vs' 11)] q192); rw [hv 11 (anyb rfl)]; exact h.upv l (disj_mem hd (c := 8) rfl)) (Sups.cons (fun vs vs' W W' _ hv l hd h => by (show (vs' 12) = vI z7.2.2); rw [hv 12 (anyb rfl)]; exact h) (Sups.cons (fun vs vs' W W' _ hv l hd h => by (show Ow W' 10 [] [(vs' 13)] z203); rw [hv 13 (anyb rfl)]; exact h.upv l (disj_mem hd (c := 10) rfl)) (Sups.cons (fun vs vs' W W' _ hv l hd h => by (show (vs' 14) = (vs' 13)); rw [hv 13 (anyb rfl), hv 14 (anyb rfl)]; exact h) Sups.nil))))))))))))))), ?_⟩
       ·intro vs W lW hN
        obtain ⟨W221, hW221⟩ : ∃ X, X = W := ⟨W, rfl⟩
        subst hW221
        refine Tr.mono (Run.tr (R.lda (cs := [v0_0_9, v0_1_9]) (b220.up lW rfl).cells rfl rfl)) ?_
        rintro _ _ ⟨hu, rfl⟩
        obtain rfl := hu.symm
        exact ⟨W221, rfl, Le.refl _ _, (show (.agg [v0_0_9, v0_1_9].toArray : Value) = .agg [v0_0_9, v0_1_9].toArray from rfl)⟩
       ·intro vs W lW hN
        obtain ⟨W228, hW228⟩ : ∃ X, X = W := ⟨W, rfl⟩
        subst hW228
        refine Tr.mono (T.lit0 (α := Int) 8 []) ?_
        rintro v235 _ ⟨W235, rfl, l235, o235⟩
        exact ⟨W235, rfl, l235, (show Ow W235 8 [] [v235] ([] : List Int) from o235)⟩
       ·intro vs W lW hN
        obtain ⟨W242, hW242⟩ : ∃ X, X = W := ⟨W, rfl⟩
        subst hW242
        refine Tr.mono (Run.tr (R.mv (v := v1_9) rfl)) ?_
        rintro _ _ ⟨hu, rfl⟩
        obtain rfl := hu.symm
        exact ⟨W242, rfl, Le.refl _ _, (show (v1_9 : Value) = v1_9 from rfl)⟩
       ·intro vs W lW hN
        obtain ⟨W249, hW249⟩ : ∃ X, X = W := ⟨W, rfl⟩
        subst hW249
        obtain ⟨pv1, e1_⟩ : ∃ v, vs 1 = v := ⟨_, rfl⟩
        obtain ⟨vs, rfl⟩ := up_eq e1_
        have o256 : Ow W249 8 [] [pv1] ([] : List Int) := (hN 1 (anyb rfl))
        have e2_ : vs 2 = v1_9 := (hN 2 (anyb rfl))
        obtain ⟨vs, rfl⟩ := up_eq e2_
        refine Tr.mono (T.appP (α := Int) o256 (((o67.up l97).up l214).up lW rfl).rd rfl rfl e174) ?_
        rintro v257 _ ⟨W257, rfl, l257, o257⟩
        exact ⟨W257, rfl, l257, (show Ow W257 8 [] [v257] q173 from o257)⟩
       ·intro vs W lW hN
        obtain ⟨W264, hW264⟩ : ∃ X, X = W := ⟨W, rfl⟩
        subst hW264
        refine Tr.mono (Run.tr (R.mv (v := v1_) rfl)) ?_
        rintro _ _ ⟨hu, rfl⟩
        obtain rfl := hu.symm
        exact ⟨W264, rfl, Le.refl _ _, (show (v1_ : Value) = v1_ from rfl)⟩
       ·intro vs W lW hN
        obtain ⟨W271, hW271⟩ : ∃ X, X = W := ⟨W, rfl⟩
        subst hW271
        have a272 := a215.t lW rfl
        have e4_ : vs 4 = v1_ := (hN 4 (anyb rfl))
        obtain ⟨vs, rfl⟩ := up_eq e4_
        refine Tr.mono (Run.tr (lenR (xs := x1) (h1.ul a272) rfl)) ?_
        rintro _ _ ⟨hu, rfl⟩
        obtain rfl := hu.symm
        exact ⟨W271, rfl, Le.refl _ _, (show (vI (x1.length : Int) : Value) = vI (x1.length : Int) from rfl)⟩
       ·intro vs W lW hN
        obtain ⟨W279, hW279⟩ : ∃ X, X = W := ⟨W, rfl⟩
        subst hW279
        refine Tr.mono (Run.tr (R.fa rfl)) ?_
        rintro _ _ ⟨hu, rfl⟩
        obtain rfl := hu.symm
        exact ⟨W279, rfl, Le.refl _ _, (show (ptr ((bx g11).add 0) : Value) = ptr ((bx g11).add 0) from rfl)⟩
       ·intro vs W lW hN
        obtain ⟨W286, hW286⟩ : ∃ X, X = W := ⟨W, rfl⟩
        subst hW286
        have e6_ : vs 6 = ptr ((bx g11).add 0) := (hN 6 (anyb rfl))
        obtain ⟨vs, rfl⟩ := up_eq e6_
        refine Tr.mono (Run.tr (R.ld (v := v0_0_9) rfl rfl ((b220.up lW rfl).cell rfl))) ?_
        rintro _ _ ⟨hu, rfl⟩
        obtain rfl := hu.symm
        exact ⟨W286, rfl, Le.refl _ _, (show (v0_0_9 : Value) = v0_0_9 from rfl)⟩
       ·intro vs W lW hN
        obtain ⟨W293, hW293⟩ : ∃ X, X = W := ⟨W, rfl⟩
        subst hW293
        have e7_ : vs 7 = v0_0_9 := (hN 7 (anyb rfl))
        obtain ⟨vs, rfl⟩ := up_eq e7_
        refine Tr.mono (Run.tr (lenR (xs := z7.1.Commits) (o216.up lW rfl).rd rfl)) ?_
        rintro _ _ ⟨hu, rfl⟩
        obtain rfl := hu.symm
        exact ⟨W293, rfl, Le.refl _ _, (show (vI (z7.1.Commits.length : Int) : Value) = vI (z7.1.Commits.length : Int) from rfl)⟩
       ·intro vs W lW hN
        obtain ⟨W300, hW300⟩ : ∃ X, X = W := ⟨W, rfl⟩
        subst hW300
        have e5_ : vs 5 = vI (x1.length : Int) := (hN 5 (anyb rfl))
        obtain ⟨vs, rfl⟩ := up_eq e5_
        have e8_ : vs 8 = vI (z7.1.Commits.length : Int) := (hN 8 (anyb rfl))
        obtain ⟨vs, rfl⟩ := up_eq e8_
        refine Tr.mono (Run.tr (R.rem rfl rfl (nz e183))) ?_
        rintro _ _ ⟨hu, rfl⟩
        obtain rfl := hu.symm
        exact ⟨W300, rfl, Le.refl _ _, (show (vI (Int.tmod (x1.length : Int) (z7.1.Commits.length : Int)) : Value) = vI (Int.tmod (x1.length : Int) (z7.1.Commits.length : Int)) from rfl)⟩
       ·intro vs W lW hN
        obtain ⟨W307, hW307⟩ : ∃ X, X = W := ⟨W, rfl⟩
        subst hW307
        have e9_ : vs 9 = vI (Int.tmod (x1.length : Int) (z7.1.Commits.length : Int)) := (hN 9 (anyb rfl))
        obtain ⟨vs, rfl⟩ := up_eq e9_
        refine Tr.mono (T.bs 9 [vI (Int.tmod (x1.length : Int) (z7.1.Commits.length : Int))] (cs := [vI (Int.tmod (x1.length : Int) (z7.1.Commits.length : Int))]) rfl rfl (bsv rfl)) ?_
        rintro _ _ ⟨g314, W314, rfl, rfl, l314, b314⟩
        exact ⟨W314, rfl, l314, (show (.slice (some (bx g314)) 1 1 : Value) = .slice (some (bx g314)) 1 1 ∧ Bx W314 9 g314 [vI (Int.tmod (x1.length : Int) (z7.1.Commits.length : Int))] from ⟨rfl, b314⟩)⟩
       ·intro vs W lW hN
        obtain ⟨W321, hW321⟩ : ∃ X, X = W := ⟨W, rfl⟩
        subst hW321
        obtain ⟨pv3, e3_⟩ : ∃ v, vs 3 = v := ⟨_, rfl⟩
        obtain ⟨vs, rfl⟩ := up_eq e3_
        have o328 : Ow W321 8 [] [pv3] q173 := (hN 3 (anyb rfl))
        obtain ⟨pg10, e10_⟩ : ∃ pg10, vs 10 = .slice (some (bx pg10)) 1 1 := ⟨_, ((hN 10 (anyb rfl))).1⟩
        obtain ⟨vs, rfl⟩ := up_eq e10_
        have o329 : Bx W321 9 pg10 [vI (Int.tmod (x1.length : Int) (z7.1.Commits.length : Int))] := (hN 10 (anyb rfl)).2
        refine Tr.mono (T.app1S (α := Int) (K' := []) o328 o329 (rdI _) rfl rfl e193) ?_
        rintro v330 _ ⟨W330, rfl, l330, o330⟩
        exact ⟨W330, rfl, l330, (show Ow W330 8 [] [v330] q192 from o330)⟩
       ·intro vs W lW hN
        obtain ⟨W338, hW338⟩ : ∃ X, X = W := ⟨W, rfl⟩
        subst hW338
        refine Tr.mono (Run.tr (R.mv (v := vI z7.2.2) rfl)) ?_
        rintro _ _ ⟨hu, rfl⟩
        obtain rfl := hu.symm
        exact ⟨W338, rfl, Le.refl _ _, (show (vI z7.2.2 : Value) = vI z7.2.2 from rfl)⟩
       ·intro vs W lW hN
        obtain ⟨W345, hW345⟩ : ∃ X, X = W := ⟨W, rfl⟩
        subst hW345
        have a346 := a215.t lW rfl
        have e0_ : vs 0 = .agg [v0_0_9, v0_1_9].toArray := (hN 0 (anyb rfl))
        obtain ⟨vs, rfl⟩ := up_eq e0_
        obtain ⟨pv11, e11_⟩ : ∃ v, vs 11 = v := ⟨_, rfl⟩
        obtain ⟨vs, rfl⟩ := up_eq e11_
        have o352 : Ow W345 8 [] [pv11] q192 := (hN 11 (anyb rfl))
        have e12_ : vs 12 = vI z7.2.2 := (hN 12 (anyb rfl))
        obtain ⟨vs, rfl⟩ := up_eq e12_
        refine Tr.mono (T.call rfl (p31 (K := [0, 2, 3, 8]) (k0 := 10) (x0 := (Vm.Repo.mk z7.1.Commits z7.1.Heads)) ((Repo.rd (K := [2, 3]) z7.1.Commits z7.1.Heads ((o216.up lW rfl).rd.sub (M := [2, 3]) rfl) (((o102.up l214).up lW rfl).rd.sub (M := [2, 3]) rfl)).sub (M := [0, 2, 3, 8]) rfl) (o352.rd.sub (M := [0, 2, 3, 8]) rfl) ((h99.ul a346).sub (M := [0, 2, 3, 8]) rfl) e204)) ?_
        rintro v0_354 _ ⟨W354, rfl, l354, ⟨_, rfl, f354_0⟩⟩
        exact ⟨W354, rfl, l354, (show Ow W354 10 [] [v0_354] z203 from f354_0)⟩
       ·intro vs W lW hN
        obtain ⟨W362, hW362⟩ : ∃ X, X = W := ⟨W, rfl⟩
        subst hW362
        obtain ⟨pv13, e13_⟩ : ∃ v, vs 13 = v := ⟨_, rfl⟩
        obtain ⟨vs, rfl⟩ := up_eq e13_
        have o369 : Ow W362 10 [] [pv13] z203 := (hN 13 (anyb rfl))
        refine Tr.mono (Run.tr (R.as (v := pv13) rfl)) ?_
        rintro _ _ ⟨hu, rfl⟩
        obtain rfl := hu.symm
        exact ⟨W362, rfl, Le.refl _ _, (show (pv13 : Value) = pv13 from rfl)⟩
       ·intro vs W lW hN
        obtain ⟨W370, hW370⟩ : ∃ X, X = W := ⟨W, rfl⟩
        subst hW370
        have a371 := a215.t lW rfl
        obtain ⟨l370, hl370⟩ : ∃ x, x = lW := ⟨lW, rfl⟩
        have e0_ : vs 0 = .agg [v0_0_9, v0_1_9].toArray := (hN 0 (anyb rfl))
        obtain ⟨vs, rfl⟩ := up_eq e0_
        have e2_ : vs 2 = v1_9 := (hN 2 (anyb rfl))
        obtain ⟨vs, rfl⟩ := up_eq e2_
        have e4_ : vs 4 = v1_ := (hN 4 (anyb rfl))
        obtain ⟨vs, rfl⟩ := up_eq e4_
        have e5_ : vs 5 = vI (x1.length : Int) := (hN 5 (anyb rfl))
        obtain ⟨vs, rfl⟩ := up_eq e5_
        have e6_ : vs 6 = ptr ((bx g11).add 0) := (hN 6 (anyb rfl))
        obtain ⟨vs, rfl⟩ := up_eq e6_
        have e7_ : vs 7 = v0_0_9 := (hN 7 (anyb rfl))
        obtain ⟨vs, rfl⟩ := up_eq e7_
        have e8_ : vs 8 = vI (z7.1.Commits.length : Int) := (hN 8 (anyb rfl))
        obtain ⟨vs, rfl⟩ := up_eq e8_
        have e9_ : vs 9 = vI (Int.tmod (x1.length : Int) (z7.1.Commits.length : Int)) := (hN 9 (anyb rfl))
        obtain ⟨vs, rfl⟩ := up_eq e9_
        obtain ⟨pg10, e10_⟩ : ∃ pg10, vs 10 = .slice (some (bx pg10)) 1 1 := ⟨_, ((hN 10 (anyb rfl))).1⟩
        obtain ⟨vs, rfl⟩ := up_eq e10_
        have o377 : Bx W370 9 pg10 [vI (Int.tmod (x1.length : Int) (z7.1.Commits.length : Int))] := (hN 10 (anyb rfl)).2
        obtain ⟨pv11, e11_⟩ : ∃ v, vs 11 = v := ⟨_, rfl⟩
        obtain ⟨vs, rfl⟩ := up_eq e11_
        have o378 : Ow W370 8 [] [pv11] q192 := (hN 11 (anyb rfl))
        have e12_ : vs 12 = vI z7.2.2 := (hN 12 (anyb rfl))
        obtain ⟨vs, rfl⟩ := up_eq e12_
        obtain ⟨pv13, e13_⟩ : ∃ v, vs 13 = v := ⟨_, rfl⟩
        obtain ⟨vs, rfl⟩ := up_eq e13_
        have o379 : Ow W370 10 [] [pv13] z203 := (hN 13 (anyb rfl))
        have e14_ : vs 14 = pv13 := (hN 14 (anyb rfl))
        obtain ⟨vs, rfl⟩ := up_eq e14_
        obtain ⟨K382, hK382, hm⟩ := jn_e hm
        refine Cw.join 133 146 [4] (fun l w => ∃ y380 W381, CW.w W381 = w ∧ Le [] W370 W381 ∧ l = [vB y380] ∧ K382 y380 = some r) ?_ ?_
        ·rintro _ _ σ ⟨y380, W381, rfl, l381, rfl, hm⟩
         rw [hK382] at hm
         have a383 := a371.n l381
         exact .ret (rt hm a383)
        ·refine Cw.draw [] [(0, 0), (1, 0), (2, 0), (3, 0), (4, 0), (5, 0), (6, 1), (7, 0), (9, 1), (10, 0), (8, 2), (11, 2), (12, 2), (13, 0), (14, 0)] mixed (by kernel_rfl) fun W392 l392 => ?_
         have a393 := a371.n l392
         have o395 := ((o102.up l214).up lW rfl).up l392
         refine Dv pv13 rfl (Mw.p rfl rfl (fun _ => lenR (xs := z203) (o379.up l392).rd rfl) (Dv v0_24 rfl (Mw.p rfl rfl (fun _ => lenR (xs := z22) (((o104.up l214).up lW rfl).up l392).rd rfl) (Mw.p rfl rfl (fun _ => R.le rfl rfl) (Db rfl (bs hm (fun hc402 hm => ?_) fun hc402 hm => ?_))))))
         ·refine Wq hc402 rfl (fun _ c => R.lda (cs := [v0_0_9, v0_1_9]) (((b220.up lW rfl).up l392).clcs rfl c) rfl rfl) (Wp hc402 rfl (fun _ => R.mv (v := vI z7.2.2) rfl) (Wq hc402 rfl (fun _ c => R.lda (cs := [v0_0_9, v0_1_9]) (((b220.up lW rfl).up l392).clcs rfl c) rfl rfl) (Wp hc402 rfl (fun _ => R.mv (v := vI z7.2.2) rfl) ?_)))
          obtain ⟨z404, e405, hm⟩ := ob hm
          refine Wt hc402 rfl (T.call rfl (p31 (K := [0, 2, 3]) (k0 := 11) (x0 := (Vm.Repo.mk z7.1.Commits z7.1.Heads)) ((Repo.rd (K := [2, 3]) z7.1.Commits z7.1.Heads (((o216.up lW rfl).up l392).rd.sub (M := [2, 3]) rfl) (o395.rd.sub (M := [2, 3]) rfl)).sub (M := [0, 2, 3]) rfl) (rdN (K := [0, 2, 3])) ((h99.ul a393).sub (M := [0, 2, 3]) rfl) e405)) ?_
          rintro v0_406 _ ⟨W406, rfl, l406, ⟨_, rfl, f406_0⟩⟩
          have a407 := a393.n l406
          refine m0 l406 fun d406 => ?_
          obtain ⟨z417, e418, hm⟩ := ob hm
          refine Wt hc402 rfl (T.call rfl (p19 (K := [0, 2, 3]) (k0 := 12) (x0 := (Vm.Repo.mk z7.1.Commits z7.1.Heads)) ((Repo.rd (K := [2, 3]) z7.1.Commits z7.1.Heads ((((o216.up lW rfl).up l392).up l406).rd.sub (M := [2, 3]) rfl) ((o395.up l406).rd.sub (M := [2, 3]) rfl)).sub (M := [0, 2, 3]) rfl) ((h99.ul a407).sub (M := [0, 2, 3]) rfl) e418)) ?_
          rintro v0_419 _ ⟨W419, rfl, l419, ⟨_, rfl, f419_0⟩⟩
          refine mc d406 l419 fun d419 => ?_
          obtain ⟨z430, e431, hm⟩ := ob hm
          refine Wt hc402 rfl (T.call rfl (p12 (K := [11, 12])  ((f406_0.up l419).rd.sub (M := [11, 12]) rfl) (f419_0.rd.sub (M := [11, 12]) rfl) e431)) ?_
          rintro _ _ ⟨W432, rfl, l432, rfl⟩
          exact mc d419 l432 fun d432 => Mw.p rfl rfl (fun _ => R.pk hc402 rfl (v := vB z430) rfl) (Hb rfl (Mw.nil ((ag) ⟨z430, W432, rfl, (((l392.j l406).j l419).j l432).w, rfl, hm⟩)))
         ·exact dps 7 hc402 rfl (Mw.p rfl rfl (fun _ => R.pk hc402 rfl (v := vB false) rfl) (Hb rfl (Mw.nil ((ag) ⟨false, W392, rfl, l392, rfl, hm⟩))))
   ·refine rg (mv v0_24 rfl (la b29 (mv v1_9 rfl (mi rfl (cr hm (fun _ => p32 (K := [2, 3, 4]) (k0 := 13) (x0 := (Vm.Repo.mk z7.1.Commits z7.1.Heads)) ((Repo.rd (K := [2, 3]) z7.1.Commits z7.1.Heads (o26.rd.sub (M := [2, 3]) rfl) (o27.rd.sub (M := [2, 3]) rfl)).sub (M := [2, 3, 4]) rfl) (o28.rd.sub (M := [2, 3, 4]) rfl)) ?_)))))
    rintro z444 v0_446 W446 hm l446 ⟨_, rfl, f446_0⟩
    have a447 := a25.n l446
    refine ca hm (fun _ => p12 (K := [6, 13]) ((f24_0.up l446).rd.sub (M := [6, 13]) rfl) (f446_0.rd.sub (M := [6, 13]) rfl)) fun z453 W455 hm l455 => ?_
    have a456 := a447.n l455
    have o457 := (o26.up l446).up l455
    have b462 := (b29.up l446).up l455
    refine Lw.r rfl (R.not rfl) (mb rfl (bs hm (fun hc463 hm => ?_) fun hc463 hm => ?_))
    ·exact psk 3 hc463 rfl (Pb hc463 rfl (mb rfl (psk 2 rfl rfl (Pb rfl rfl (mb rfl (psk 5 rfl rfl (Pb rfl rfl (mb rfl (psk 2 rfl rfl (Pb rfl rfl (nl ((ag) ⟨true, W455, rfl, (l446.j l455).w, rfl, hm⟩))))))))))))
    ·refine wak 3 hc463 (la b462 (ca hm (fun _ => p18 (K := [0, 2, 3]) (x0 := (Vm.Repo.mk z7.1.Commits z7.1.Heads)) ((Repo.rd (K := [2, 3]) z7.1.Commits z7.1.Heads (o457.rd.sub (M := [2, 3]) rfl) (((o27.up l446).up l455).rd.sub (M := [2, 3]) rfl)).sub (M := [0, 2, 3]) rfl) ((h99.ul a456).sub (M := [0, 2, 3]) rfl)) fun z465 W467 hm l467 => Lw.r rfl (R.not rfl) (Pb hc463 rfl (mb rfl (bs hm (fun hc475 hm => ?_) fun hc475 hm => ?_)))))
     ·exact psk 2 hc475 rfl (Pb hc475 rfl (mb rfl (psk 5 rfl rfl (Pb rfl rfl (mb rfl (psk 2 rfl rfl (Pb rfl rfl (nl ((ag) ⟨true, W467, rfl, ((l446.j l455).j l467).w, rfl, hm⟩)))))))))
     ·refine wak 2 hc475 (mi rfl (Lw.lt rfl (Pb hc475 rfl (mb rfl (bs hm (fun hc476 hm => ?_) fun hc476 hm => ?_)))))
      ·exact psk 5 hc476 rfl (Pb hc476 rfl (mb rfl (psk 2 rfl rfl (Pb rfl rfl (nl ((ag) ⟨true, W467, rfl, ((l446.j l455).j l467).w, rfl, hm⟩))))))
      ·refine wak 5 hc476 (mi rfl (fl (b462.up l467) rfl (Lw.ln z7.1.Commits (o457.up l467).rd rfl (Lw.ge rfl (Pb hc476 rfl (mb rfl (bs hm (fun hc477 hm => ?_) fun hc477 hm => ?_)))))))
       ·exact psk 2 hc477 rfl (Pb hc477 rfl (nl ((ag) ⟨true, W467, rfl, ((l446.j l455).j l467).w, rfl, hm⟩)))
       ·exact wak 2 hc477 (mv v1_9 rfl (ca hm (fun _ => p26 (K := [4]) (((o28.up l446).up l455).up l467).rd) fun z478 W480 hm l480 => Pb hc477 rfl (nl ((ag) ⟨z478, W480, rfl, (((l446.j l455).j l467).j l480).w, rfl, hm⟩))))
 ·refine rg (mv v0_ rfl (Lw.ln x0 h0 rfl (Lw.gt rfl (mb rfl (bs hm (fun hc488 hm => ?_) fun hc488 hm => ?_)))))
  ·exact psk 3 hc488 rfl (Pb hc488 rfl (nl ((ag) ⟨true, W0, rfl, Le.refl _ _, rfl, hm⟩)))
  ·exact wak 3 hc488 (mv v1_ rfl (Lw.ln x1 h1 rfl (Lw.gt rfl (Pb hc488 rfl (nl ((ag) ⟨decide ((1048576 : Int) < ((x1.length : Int) : Int)), W0, rfl, Le.refl _ _, rfl, hm⟩))))))

theorem p8 {x0 v0_ x1 v1_ r} (h0 : Rd W K [v0_] x0) (h1 : Rd W K [v1_] x1) (h99 : Gl 0 W K) (hm : Vm.laws_FnLogLeft x0 x1 = some r) : Q1 8 [v0_, v1_] W [] fun W' v => v = vB r :=
 (c8 (h0.view _) (h1.view _) (h99.view _) hm).ad (fk 0) fun _ _ e => e

end Go.Sx
