/- Walks: each function answers as its model, printed by a program of ours. Conditions: the arguments read as they are given. -/
import Derived.Test.YtkfeiopifiejgaaDoorXTs
import Derived.Test.YtkfeiopifiejgaaDoorXMd
import Derived.Test.YtkfeiopifiejgaaDoorXW0
namespace Go.Sx
open Go Go.Proofs Go.Vm Rp
set_option linter.unusedVariables false
set_option linter.unusedSimpArgs false

variable {W W0 : CW} {K : List Nat}
theorem c42 {x0 v0_0_ v0_1_ r} (h0 : Rd W0 [0] [v0_0_, v0_1_] x0) (hm : Vm.spec_l7Ok x0 = some r) : Q0 42 [.agg [v0_0_, v0_1_].toArray] W0 fun Wf v => v = vB r := by
 unfold Vm.spec_l7Ok at hm
 obtain ⟨w0_0, w0_1, he0, h0_0, h0_1⟩ := Repo.split h0
 simp only [List.cons.injEq, and_true, true_and] at he0
 obtain ⟨rfl, rfl⟩ := he0
 refine CallR.of Tryd.func42 rfl rfl rfl rfl (sr (bo 2 rfl fun g1 W1 l1 b1 => ?_))
 have a2 := l1.o
 refine Nb rfl (ssr (Ni rfl (Cw.block ?_)))
 obtain ⟨K8, hK8, hm⟩ := jn_e hm
 refine Cw.loop 7 66 [2, 3, 4, 5] (fun m l w => ∃ y3 y4 j5 j6 W7, CW.w W7 = w ∧ Le [3] W1 W7 ∧ l = [vB y3, vI y4, j5, j6] ∧ Vm.spec_l7Ok_l1 x0 K8 m y3 y4 = some r) _ ⟨false, 0, undef, undef, W1, rfl, Le.refl _ _, rfl, hm⟩ ?_
 rintro (_ | m9) _ _ σ ⟨y3, y4, j5, j6, W7, rfl, l7, rfl, hm⟩
 ·cases hm
 unfold Vm.spec_l7Ok_l1 at hm
 have a10 := a2.t l7
 have b11 := b1.up l7
 refine ssr ?_
 have s12 := h0_0.ul a10
 refine mi rfl (fl b11 rfl (Lw.ln x0.Commits s12 rfl (Lw.lt rfl (nl (cn hm (fun hm => ?_) fun hm => ?_)))))
 ·refine sk (Cw.seq (Cw.block (sr (fl b11 rfl (mi rfl ?_)))))
  obtain ⟨u14, e15, hm⟩ := ob hm
  refine Lw.r rfl (R.ix (α := Commit) s12 e15 rfl rfl rfl) ?_
  obtain ⟨x16, c17, _, r18⟩ := (s12.at_ e15).cells
  obtain ⟨v19, v21, rfl, r20, r22⟩ := Commit.split r18
  refine Lw.r rfl (R.lda c17 rfl rfl) (al 3 [.slice none 0 0, vS ([] : Str), .slice none 0 0] fun g23 W23 l23 b23 => ?_)
  have a24 := l23.o
  refine sta b23 (oc_cons r20.oc (oc_cons rfl (oc_cons r22.oc oc_nil))) fun W26 l26 b26 => ?_
  have a27 := l26.s
  refine nl (ssr (Ni rfl (Cw.block ?_)))
  obtain ⟨K32, hK32, hm⟩ := jn_e hm
  refine Cw.loop 19 50 [2, 5] (fun m l w => ∃ y29 y30 W31, CW.w W31 = w ∧ Le [] W26 W31 ∧ l = [vB y29, vI y30] ∧ Vm.spec_l7Ok_l2 y4 u14 K32 m y29 y30 = some r) _ ⟨y3, 0, W26, rfl, Le.refl _ _, rfl, hm⟩ ?_
  rintro (_ | m33) _ _ σ ⟨y29, y30, W31, rfl, l31, rfl, hm⟩
  ·cases hm
  unfold Vm.spec_l7Ok_l2 at hm
  have a34 := l31.o
  have b36 := b26.up l31
  refine ssr ?_
  have s37 := r20.ul ((a24.trans a27).trans a34)
  refine mi rfl (fl b36 rfl (Lw.ln u14.Parents s37 rfl (Lw.lt rfl (nl (cn hm (fun hm => ?_) fun hm => ?_)))))
  ·refine sk (Cw.seq (Cw.block ?_))
   obtain ⟨K41, hK41, hm⟩ := jn_e hm
   refine Cw.join 26 50 [50] (fun l w => ∃ y39 W40, CW.w W40 = w ∧ Le [] W31 W40 ∧ l = [vB y39] ∧ K41 y39 = some r) ?_ ?_
   ·rintro _ _ σ ⟨y39, W40, rfl, l40, rfl, hm⟩
    rw [hK41] at hm
    have a42 := (((a10.trans a24).trans a27).trans a34).n l40
    refine cn hm (fun hm => ?_) fun hm => ?_
    ·exact sr (Nb rfl (.ret (rt hm a42)))
    ·exact sk (rg (mi rfl (Lw.add rfl (Ni rfl ((agm) ⟨y29, w64 (y30 + 1), W40, rfl, (l31.j l40).w, rfl, hm⟩)))))
   ·refine Cw.draw [] [(0, 0), (1, 1), (2, 0), (3, 0), (4, 1), (5, 0), (6, 0), (7, 2), (8, 0), (9, 0), (10, 0), (11, 0), (12, 0), (13, 0), (14, 1), (15, 0), (16, 0), (17, 1), (18, 0), (19, 1), (20, 0), (21, 1), (22, 0), (23, 0), (24, 0)] mixed (by kernel_rfl) fun W46 l46 => ?_
    have a47 := ((a24.trans a27).trans a34).n l46
    have b49 := b36.up l46
    refine Dfl b49 rfl rfl rfl (Di rfl ?_)
    obtain ⟨u50, e51, hm⟩ := ob hm
    have s52 := r20.ul a47
    refine Mw.p rfl rfl (fun _ => R.ix (α := Int) s52 e51 rfl rfl rfl) (Mw.q rfl rfl (fun _ c => R.ld rfl rfl (cl_cell (s52.at_ e51).1 rfl (s52.at_ e51).int c)) (Di rfl (Mw.p rfl rfl (fun _ => R.sub rfl rfl) (Dc hm (Le.refl _ _) (fun _ => p63) rfl ?_))))
    rintro z53 _ W55 hm l55 rfl d55
    refine Mw.p rfl rfl (fun _ => R.not rfl) (Db rfl (bs hm (fun hc59 hm => ?_) fun hc59 hm => ?_))
    ·exact dps 3 hc59 rfl (dpu 10 rfl (dps 1 hc59 rfl (Mw.p rfl rfl (fun _ => R.pk hc59 rfl (v := vB true) rfl) (Mw.nil ((ag) ⟨true, W55, rfl, (l46.j l55).w, rfl, hm⟩)))))
    ·refine Wp hc59 rfl (fun _ => R.mv (v := vI y30) rfl) (Wp hc59 rfl (fun _ => R.gt rfl rfl) (Wp hc59 rfl (fun _ => R.mv (v := vB (decide ((0 : Int) < (y30 : Int)))) rfl) (bs hm (fun hc60 hm => ?_) fun hc60 hm => ?_)))
     ·refine Wp hc60 rfl (fun _ => R.fa rfl) (Wq hc60 rfl (fun _ c => R.ld (v := v19) rfl rfl (b49.clc rfl rfl c)) (Wp hc60 rfl (fun _ => R.mv (v := vI y30) rfl) ?_))
      obtain ⟨u61, e62, hm⟩ := ob hm
      refine Wp hc60 rfl (fun _ => R.ix (α := Int) s52 e62 rfl rfl rfl) (Wq hc60 rfl (fun _ c => R.ld rfl rfl (cl_cell (s52.at_ e62).1 rfl (s52.at_ e62).int c)) (Wp hc60 rfl (fun _ => R.fa rfl) (Wq hc60 rfl (fun _ c => R.ld (v := v19) rfl rfl (b49.clc rfl rfl c)) ?_)))
      obtain ⟨u63, e64, hm⟩ := ob hm
      exact Wp hc60 rfl (fun _ => R.ix (α := Int) s52 e64 rfl rfl rfl) (Wq hc60 rfl (fun _ c => R.ld rfl rfl (cl_cell (s52.at_ e64).1 rfl (s52.at_ e64).int c)) (Wp hc60 rfl (fun _ => R.eq rfl rfl) (Wp hc59 rfl (fun _ => R.pk hc60 rfl (v := vB ((u61 : Int) == (u63 : Int))) rfl) (Mw.p rfl rfl (fun _ => R.pk hc59 rfl (v := vB ((u61 : Int) == (u63 : Int))) rfl) (Mw.nil ((ag) ⟨((u61 : Int) == (u63 : Int)), W55, rfl, (l46.j l55).w, rfl, hm⟩))))))
     ·exact dps 10 hc60 rfl (Wp hc59 rfl (fun _ => R.pk hc60 rfl (v := vB false) rfl) (Mw.p rfl rfl (fun _ => R.pk hc59 rfl (v := vB false) rfl) (Mw.nil ((ag) ⟨false, W55, rfl, (l46.j l55).w, rfl, hm⟩))))
  ·refine Cw.exit ?_
   rw [hK32] at hm
   obtain ⟨K67, hK67, hm⟩ := jn_e hm
   refine Cw.join 51 66 [66] (fun l w => ∃ y65 W66, CW.w W66 = w ∧ Le [] W31 W66 ∧ l = [vB y65] ∧ K67 y65 = some r) ?_ ?_
   ·rintro _ _ σ ⟨y65, W66, rfl, l66, rfl, hm⟩
    rw [hK67] at hm
    have a68 := (((a10.trans a24).trans a27).trans a34).n l66
    refine cn hm (fun hm => ?_) fun hm => ?_
    ·exact sr (Nb rfl (.ret (rt hm a68)))
    ·exact sk (rg (mi rfl (Lw.add rfl (Ni rfl ((agm) ⟨y29, w64 (y4 + 1), ptr (bx g23), vI y30, W66, rfl, ((((l7.j l23).j l26).j l31).j l66).w, rfl, hm⟩)))))
   ·refine rg (fl b36 rfl (Lw.ln u14.Parents s37 rfl (Lw.gt rfl (mb rfl (bs hm (fun hc72 hm => ?_) fun hc72 hm => ?_)))))
    ·exact psk 4 hc72 rfl (Pb hc72 rfl (mb rfl (psk 4 rfl rfl (Pb rfl rfl (nl ((ag) ⟨true, W31, rfl, Le.refl _ _, rfl, hm⟩))))))
    ·refine wak 4 hc72 (fl b36 rfl (ca hm (fun _ => p98) fun z73 W75 hm l75 => ?_))
     have a76 := ((a24.trans a27).trans a34).n l75
     refine Lw.r rfl (R.not rfl) (Pb hc72 rfl (mb rfl (bs hm (fun hc79 hm => ?_) fun hc79 hm => ?_)))
     ·exact psk 4 hc79 rfl (Pb hc79 rfl (nl ((ag) ⟨true, W75, rfl, l75, rfl, hm⟩)))
     ·exact wak 4 hc79 (fl (b36.up l75) rfl (ca hm (fun _ => p99 (r22.ul a76)) fun z81 W83 hm l83 => Lw.r rfl (R.not rfl) (Pb hc79 rfl (nl ((ag) ⟨(!z81), W83, rfl, (l75.j l83).w, rfl, hm⟩)))))
 ·refine Cw.exit ?_
  rw [hK8] at hm
  refine ssr (Ni rfl (Cw.block ?_))
  obtain ⟨K90, hK90, hm⟩ := jn_e hm
  refine Cw.loop 67 115 [2, 6] (fun m l w => ∃ y87 y88 W89, CW.w W89 = w ∧ Le [] W7 W89 ∧ l = [vB y87, vI y88] ∧ Vm.spec_l7Ok_l3 x0 K90 m y87 y88 = some r) _ ⟨y3, 0, W7, rfl, Le.refl _ _, rfl, hm⟩ ?_
  rintro (_ | m91) _ _ σ ⟨y87, y88, W89, rfl, l89, rfl, hm⟩
  ·cases hm
  unfold Vm.spec_l7Ok_l3 at hm
  have a92 := a10.n l89
  have b93 := b11.up l89
  refine ssr (mi rfl (fl b93 rfl (Lw.ln x0.Heads (h0_1.ul a92) rfl (Lw.lt rfl (nl (cn hm (fun hm => ?_) fun hm => ?_))))))
  ·refine sk (Cw.seq (Cw.block ?_))
   obtain ⟨K98, hK98, hm⟩ := jn_e hm
   refine Cw.join 74 115 [115] (fun l w => ∃ y96 W97, CW.w W97 = w ∧ Le [] W89 W97 ∧ l = [vB y96] ∧ K98 y96 = some r) ?_ ?_
   ·rintro _ _ σ ⟨y96, W97, rfl, l97, rfl, hm⟩
    rw [hK98] at hm
    have a99 := a92.n l97
    refine cn hm (fun hm => ?_) fun hm => ?_
    ·exact sr (Nb rfl (.ret (rt hm a99)))
    ·exact sk (rg (mi rfl (Lw.add rfl (Ni rfl ((agm) ⟨y87, w64 (y88 + 1), W97, rfl, (l89.j l97).w, rfl, hm⟩)))))
   ·refine Cw.draw [] [(0, 0), (1, 1), (2, 0), (3, 0), (4, 0), (5, 1), (6, 2), (7, 0), (8, 0), (9, 0), (10, 1), (11, 0), (12, 0), (13, 0), (14, 1), (15, 0), (16, 1), (17, 0), (18, 0), (19, 2), (20, 0), (21, 0), (22, 0), (23, 0), (24, 0), (25, 0), (26, 0), (27, 1), (28, 0), (29, 0), (30, 0), (31, 1), (32, 0), (33, 1), (34, 0), (35, 0), (36, 0), (37, 0), (38, 1), (39, 0), (40, 0), (41, 0)] mixed (by kernel_rfl) fun W102 l102 => ?_
    have a103 := a92.n l102
    have b104 := b93.up l102
    refine Dfl b104 rfl rfl rfl (Di rfl ?_)
    obtain ⟨u105, e106, hm⟩ := ob hm
    have s107 := h0_1.ul a103
    refine Mw.p rfl rfl (fun _ => R.ix (α := Head) s107 e106 rfl rfl rfl) (Df rfl (Mw.q rfl rfl (fun _ c => R.ld rfl rfl (cl_cell (Head.at0 (s107.at_ e106)).1 rfl (Head.at0 (s107.at_ e106)).str c)) ?_))
    obtain ⟨z108, e109, hm⟩ := ob hm
    refine Mw.t rfl rfl (T.call rfl (p98   e109)) ?_
    rintro _ _ ⟨W110, rfl, l110, rfl⟩
    have a111 := a103.n l110
    refine m0 l110 fun d110 => Mw.p rfl rfl (fun _ => R.not rfl) (Db rfl (bs hm (fun hc113 hm => ?_) fun hc113 hm => ?_))
    ·exact dps 12 hc113 rfl (Mw.p rfl rfl (fun _ => R.pk hc113 rfl (v := vB true) rfl) (Db rfl (dps 3 rfl rfl (dpu 14 rfl (dps 1 rfl rfl (Mw.p rfl rfl (fun _ => R.pk rfl rfl (v := vB true) rfl) (Mw.nil ((ag) ⟨true, W110, rfl, (l102.j l110).w, rfl, hm⟩))))))))
    ·refine Wp hc113 rfl (fun _ => R.fa rfl) (Wq hc113 rfl (fun _ c => R.ld (v := v0_1_) rfl rfl (b104.clc rfl rfl c)) (Wp hc113 rfl (fun _ => R.mv (v := vI y88) rfl) ?_))
     obtain ⟨u114, e115, hm⟩ := ob hm
     refine Wp hc113 rfl (fun _ => R.ix (α := Head) s107 e115 rfl rfl rfl) (Wp hc113 rfl (fun _ => R.fa rfl) (Wq hc113 rfl (fun _ c => R.ld rfl rfl (cl_cell (Head.at1 (s107.at_ e115)).1 rfl (Head.at1 (s107.at_ e115)).int c)) (Wp hc113 rfl (fun _ => R.fa rfl) (Wq hc113 rfl (fun _ c => R.ld (v := v0_0_) rfl rfl (b104.clc rfl rfl c)) (Wp hc113 rfl (fun _ => lenR (xs := x0.Commits) (h0_0.ul a111) rfl) (Wp hc113 rfl (fun _ => R.sub rfl rfl) ?_))))))
     obtain ⟨z117, e118, hm⟩ := ob hm
     refine Wt hc113 rfl (T.call rfl (p63   e118)) ?_
     rintro _ _ ⟨W119, rfl, l119, rfl⟩
     refine mc d110 l119 fun d119 => Wp hc113 rfl (fun _ => R.not rfl) (Mw.p rfl rfl (fun _ => R.pk hc113 rfl (v := vB (!z117)) rfl) (Db rfl (bs hm (fun hc122 hm => ?_) fun hc122 hm => ?_)))
     ·exact dps 3 hc122 rfl (dpu 14 rfl (dps 1 hc122 rfl (Mw.p rfl rfl (fun _ => R.pk hc122 rfl (v := vB true) rfl) (Mw.nil ((ag) ⟨true, W119, rfl, ((l102.j l110).j l119).w, rfl, hm⟩)))))
     ·refine Wp hc122 rfl (fun _ => R.mv (v := vI y88) rfl) (Wp hc122 rfl (fun _ => R.gt rfl rfl) (Wp hc122 rfl (fun _ => R.mv (v := vB (decide ((0 : Int) < (y88 : Int)))) rfl) (bs hm (fun hc123 hm => ?_) fun hc123 hm => ?_)))
      ·refine Wp hc123 rfl (fun _ => R.fa rfl) (Wq hc123 rfl (fun _ c => R.ld (v := v0_1_) rfl rfl (b104.clc rfl rfl c)) (Wp hc123 rfl (fun _ => R.mv (v := vI y88) rfl) ?_))
       obtain ⟨u124, e125, hm⟩ := ob hm
       refine Wp hc123 rfl (fun _ => R.ix (α := Head) s107 e125 rfl rfl rfl) (Wp hc123 rfl (fun _ => R.fa rfl) (Wq hc123 rfl (fun _ c => R.ld rfl rfl (cl_cell (Head.at0 (s107.at_ e125)).1 rfl (Head.at0 (s107.at_ e125)).str c)) (Wp hc123 rfl (fun _ => R.fa rfl) (Wq hc123 rfl (fun _ c => R.ld (v := v0_1_) rfl rfl (b104.clc rfl rfl c)) (Wp hc123 rfl (fun _ => R.mv (v := vI y88) rfl) (Wp hc123 rfl (fun _ => R.sub rfl rfl) ?_))))))
       obtain ⟨u126, e127, hm⟩ := ob hm
       exact Wp hc123 rfl (fun _ => R.ix (α := Head) s107 e127 rfl rfl rfl) (Wp hc123 rfl (fun _ => R.fa rfl) (Wq hc123 rfl (fun _ c => R.ld rfl rfl (cl_cell (Head.at0 (s107.at_ e127)).1 rfl (Head.at0 (s107.at_ e127)).str c)) (Wp hc123 rfl (fun _ => R.sle rfl rfl) (Wp hc122 rfl (fun _ => R.pk hc123 rfl (v := vB (Op.bytesLess u124.Name u126.Name || u124.Name == u126.Name)) rfl) (Mw.p rfl rfl (fun _ => R.pk hc122 rfl (v := vB (Op.bytesLess u124.Name u126.Name || u124.Name == u126.Name)) rfl) (Mw.nil ((ag) ⟨(Op.bytesLess u124.Name u126.Name || u124.Name == u126.Name), W119, rfl, ((l102.j l110).j l119).w, rfl, hm⟩)))))))
      ·exact dps 14 hc123 rfl (Wp hc122 rfl (fun _ => R.pk hc123 rfl (v := vB false) rfl) (Mw.p rfl rfl (fun _ => R.pk hc122 rfl (v := vB false) rfl) (Mw.nil ((ag) ⟨false, W119, rfl, ((l102.j l110).j l119).w, rfl, hm⟩))))
  ·refine Cw.exit ?_
   rw [hK90] at hm
   obtain ⟨K130, hK130, hm⟩ := jn_e hm
   refine Cw.join 116 125 [2] (fun l w => ∃ y128 W129, CW.w W129 = w ∧ Le [] W89 W129 ∧ l = [vB y128] ∧ K130 y128 = some r) ?_ ?_
   ·rintro _ _ σ ⟨y128, W129, rfl, l129, rfl, hm⟩
    rw [hK130] at hm
    have a131 := a92.n l129
    exact .ret (rt hm a131)
   ·refine rg (fl b93 rfl (Lw.ln x0.Commits (h0_0.ul a92) rfl (Lw.le rfl (mb rfl (bs hm (fun hc134 hm => ?_) fun hc134 hm => ?_)))))
    ·exact wak 4 hc134 (fl b93 rfl (Lw.ln x0.Heads (h0_1.ul a92) rfl (Lw.le rfl (Pb hc134 rfl (Nb rfl ((ag) ⟨decide (((x0.Heads.length : Int) : Int) ≤ (5 : Int)), W89, rfl, Le.refl _ _, rfl, hm⟩))))))
    ·exact psk 4 hc134 rfl (Pb hc134 rfl (Nb rfl ((ag) ⟨false, W89, rfl, Le.refl _ _, rfl, hm⟩)))

theorem p42 {x0 v0_0_ v0_1_ r} (h0 : Rd W K [v0_0_, v0_1_] x0) (hm : Vm.spec_l7Ok x0 = some r) : Q1 42 [.agg [v0_0_, v0_1_].toArray] W [] fun W' v => v = vB r :=
 (c42 (h0.view _) hm).ad (fk 0) fun _ _ e => e

theorem c43 {x0 v0_ r} (h0 : Rd W0 [0] [v0_] x0) (hm : Vm.spec_l4Copy x0 = some r) : Q0 43 [v0_] W0 fun Wf v => ∃ u0, v = u0 ∧ OwS Wf LL [] [u0] r := by
 unfold Vm.spec_l4Copy at hm
 refine CallR.of Tryd.func43 rfl rfl rfl rfl (sr (Nv (.slice none 0 0) rfl (sr (Lw.t rfl (T.lit0 (α := File) 2 []) ?_))))
 rintro v1 _ ⟨W1, rfl, l1, o1⟩
 have a2 := l1.o
 refine Nv v1 rfl (ssr (Ni rfl (Cw.block ?_)))
 obtain ⟨K8, hK8, hm⟩ := jn_e hm
 refine Cw.loop 6 27 [3, 4] (fun m l w => ∃ y3 y6 v4 W7, CW.w W7 = w ∧ Le [2, 3] W1 W7 ∧ l = [v4, vI y6] ∧ Ow W7 2 [] [v4] y3 ∧ Vm.spec_l4Copy_l1 x0 K8 m y3 y6 = some r) _ ⟨([] : List File), 0, v1, W1, rfl, Le.refl _ _, rfl, o1, hm⟩ ?_
 rintro (_ | m9) _ _ σ ⟨y3, y6, v4, W7, rfl, l7, rfl, o5, hm⟩
 ·cases hm
 unfold Vm.spec_l4Copy_l1 at hm
 have a10 := a2.t l7
 refine ssr (mi rfl (mv v0_ rfl (Lw.ln x0 (h0.ul a10) rfl (Lw.lt rfl (nl (cn hm (fun hm => ?_) fun hm => ?_))))))
 ·refine sk (Cw.seq (Cw.block (Cw.draw [2, 3] [(0, 0), (1, 0), (2, 0), (3, 0), (4, 0), (5, 1), (7, 0), (8, 0), (9, 0), (10, 0), (11, 1), (6, 2), (12, 2), (13, 0), (14, 2), (15, 2), (16, 0)] mixed (by kernel_rfl) fun W13 l13 => ?_)))
  have a14 := a10.n l13
  refine Dv v4 rfl (Dv v0_ rfl (Di rfl ?_))
  obtain ⟨u16, e17, hm⟩ := ob hm
  have s18 := h0.ul a14
  refine Mw.p rfl rfl (fun _ => R.ix (α := File) s18 e17 rfl rfl rfl) (Df rfl (Mw.q rfl rfl (fun _ c => R.ld rfl rfl (cl_cell (File.at0 (s18.at_ e17)).1 rfl (File.at0 (s18.at_ e17)).str c)) (Dv v0_ rfl (Di rfl ?_))))
  obtain ⟨u19, e20, hm⟩ := ob hm
  refine Mw.p rfl rfl (fun _ => R.ix (α := File) s18 e20 rfl rfl rfl) (Df rfl ?_)
  obtain ⟨v21, c22, r23⟩ := (File.at1 (s18.at_ e20)).cell rfl
  refine Mw.q rfl rfl (fun _ c => R.ld rfl rfl (cl_cell (File.at1 (s18.at_ e20)).1 rfl c22 c)) (Mw.t rfl rfl (T.lit0 (α := Str) 3 []) ?_)
  rintro v24 _ ⟨W24, rfl, l24, o24⟩
  have a25 := l24.o
  refine m0 l24 fun d24 => ?_
  obtain ⟨q27, e28, hm⟩ := ob hm
  refine Mw.t rfl rfl (T.appP (α := Str) o24 (r23.ul a25) rfl rfl e28) ?_
  rintro v29 _ ⟨W29, rfl, l29, o29⟩
  refine mc d24 l29 fun d29 => Mw.p rfl rfl (fun _ => R.bd (zs := [vS ([] : Str), .slice none 0 0]) (cs := [vS u16.Path, v29]) [(0, vS u16.Path), (1, v29)] rfl rfl rfl (bp_cons rfl rfl (bp_cons o29.oc rfl bp_nil))) (Mw.t rfl rfl (T.bs 4 [.agg [vS u16.Path, v29].toArray] (cs := [vS u16.Path, v29]) rfl rfl (bsA rfl)) ?_)
  rintro _ _ ⟨g33, W33, rfl, rfl, l33, b33⟩
  refine mc d29 l33 fun d33 => ?_
  obtain ⟨q37, e38, hm⟩ := ob hm
  refine Mw.t rfl rfl (T.app1 (α := File) (J := [3]) (K' := []) ((((o5.up l13).up l24).up l29).up l33) b33 (File.own u16.Path q27 (o29.up l33).s) rfl rfl e38) ?_
  rintro v39 _ ⟨W39, rfl, l39, o39⟩
  exact mc d33 l39 fun d39 => Hv v39 rfl (Mw.nil (rg (mi rfl (Lw.add rfl (Ni rfl ((agm) ⟨q37, w64 (y6 + 1), v39, W39, rfl, (((((l7.j l13).j l24).j l29).j l33).j l39).w, rfl, o39, hm⟩))))))
 ·refine Cw.exit ?_
  rw [hK8] at hm
  refine sr (mv v4 rfl (Nv v4 rfl ?_))
  cases hm
  exact Cw.ret (ret1 rfl (Res.mk a10 ⟨v4, rfl, o5.s.sub rfl rfl⟩))

theorem p43 {x0 v0_ k0 r} (h0 : Rd W K [v0_] x0) (hm : Vm.spec_l4Copy x0 = some r) : Q1 43 [v0_] W [] fun W' v => ∃ u0, v = u0 ∧ Ow W' k0 [] [u0] r :=
 (c43 (h0.view _) hm).ad (fk k0) fun _ _ ⟨u0, e, f0⟩ => ⟨u0, e, f0.back (fk_LL _)⟩

theorem c44 {x0 v0_0_ v0_1_ x1 r} (h0 : Rd W0 [0] [v0_0_, v0_1_] x0) (hm : Vm.spec_l7At x0 x1 = some r) : Q0 44 [.agg [v0_0_, v0_1_].toArray, vS x1] W0 fun Wf v => v = vI r := by
 unfold Vm.spec_l7At at hm
 obtain ⟨w0_0, w0_1, he0, h0_0, h0_1⟩ := Repo.split h0
 simp only [List.cons.injEq, and_true, true_and] at he0
 obtain ⟨rfl, rfl⟩ := he0
 refine CallR.of Tryd.func44 rfl rfl rfl rfl (sr (bo 2 rfl fun g1 W1 l1 b1 => ?_))
 have a2 := l1.o
 refine Ni rfl (ssr (Ni rfl (Cw.block ?_)))
 obtain ⟨K6, hK6, hm⟩ := jn_e hm
 refine Cw.loop 6 26 [4, 5] (fun m l w => ∃ y3 y4 W5, CW.w W5 = w ∧ Le [] W1 W5 ∧ l = [vI y3, vI y4] ∧ Vm.spec_l7At_l1 x0 x1 K6 m y3 y4 = some r) _ ⟨0, 0, W1, rfl, Le.refl _ _, rfl, hm⟩ ?_
 rintro (_ | m7) _ _ σ ⟨y3, y4, W5, rfl, l5, rfl, hm⟩
 ·cases hm
 unfold Vm.spec_l7At_l1 at hm
 have a8 := a2.n l5
 have b9 := b1.up l5
 refine ssr ?_
 have s10 := h0_1.ul a8
 refine mi rfl (fl b9 rfl (Lw.ln x0.Heads s10 rfl (Lw.lt rfl (nl (cn hm (fun hm => ?_) fun hm => ?_)))))
 ·refine sk (Cw.seq (Cw.block (sr (fl b9 rfl (mi rfl ?_)))))
  obtain ⟨u12, e13, hm⟩ := ob hm
  refine Lw.r rfl (R.ix (α := Head) s10 e13 rfl rfl rfl) (Lw.fa rfl (Lw.r rfl (R.ld rfl rfl (Head.at0 (s10.at_ e13)).str) (ms rfl (Lw.seq rfl (nl (cn hm (fun hm => ?_) fun hm => ?_))))))
  ·refine sr (fl b9 rfl (mi rfl ?_))
   obtain ⟨u15, e16, hm⟩ := ob hm
   exact Lw.r rfl (R.ix (α := Head) s10 e16 rfl rfl rfl) (Lw.fa rfl (Lw.r rfl (R.ld rfl rfl (Head.at1 (s10.at_ e16)).int) (Ni rfl (.ret (rt hm a8)))))
  ·exact sk (rg (mi rfl (Lw.add rfl (Ni rfl ((agm) ⟨y3, w64 (y4 + 1), W5, rfl, l5, rfl, hm⟩)))))
 ·refine Cw.exit ?_
  rw [hK6] at hm
  exact sr (Ni rfl (.ret (rt hm a8)))

theorem p44 {x0 v0_0_ v0_1_ x1 r} (h0 : Rd W K [v0_0_, v0_1_] x0) (hm : Vm.spec_l7At x0 x1 = some r) : Q1 44 [.agg [v0_0_, v0_1_].toArray, vS x1] W [] fun W' v => v = vI r :=
 (c44 (h0.view _) hm).ad (fk 0) fun _ _ e => e

theorem c62 {x0 v0_0_ v0_2_ r} (h0 : Rd W0 [0] [v0_0_, vS x0.Who, v0_2_] x0) (hm : Vm.spec_l7CopyCommit x0 = some r) : Q0 62 [.agg [v0_0_, vS x0.Who, v0_2_].toArray] W0 fun Wf v => ∃ u0_0 u0_2, v = .agg [u0_0, vS r.Who, u0_2].toArray ∧ OwS Wf [31] [] [u0_0] r.Parents ∧ OwS Wf [32] [] [u0_2] r.Tree := by
 unfold Vm.spec_l7CopyCommit at hm
 obtain ⟨w0_0, w0_1, he0, h0_0, h0_2⟩ := Commit.split h0
 simp only [List.cons.injEq, and_true, true_and] at he0
 obtain ⟨rfl, rfl⟩ := he0
 refine CallR.of Tryd.func62 rfl rfl rfl rfl (sr (bo 2 rfl fun g1 W1 l1 b1 => ?_))
 have a2 := l1.o
 refine al 3 [.slice none 0 0, vS ([] : Str), .slice none 0 0] fun g3 W3 l3 b3 => ?_
 have a4 := a2.n l3
 refine nl (Cw.seq (Cw.draw [4] [(1, 0), (2, 1), (4, 0), (5, 1), (6, 0), (7, 1), (0, 2), (3, 2), (8, 2), (9, 0), (10, 3)] mixed (by kernel_rfl) fun W6 l6 => ?_))
 have a7 := a4.n l6
 have b8 := (b1.up l3).up l6
 refine Dfl b8 rfl rfl rfl (Dfl b8 rfl rfl rfl (Dfl b8 rfl rfl rfl (Mw.t rfl rfl (T.lit0 (α := Int) 4 []) ?_)))
 rintro v10 _ ⟨W10, rfl, l10, o10⟩
 have a11 := a7.n l10
 refine m0 l10 fun d10 => ?_
 obtain ⟨q14, e15, hm⟩ := ob hm
 refine Mw.t rfl rfl (T.appP (α := Int) o10 (h0_0.ul a11) rfl rfl e15) ?_
 rintro v16 _ ⟨W16, rfl, l16, o16⟩
 have a18 := a11.t l16
 refine mc d10 l16 fun d16 => ?_
 obtain ⟨z22, e23, hm⟩ := ob hm
 refine Mw.t rfl rfl (T.call rfl (p43 (k0 := 5) (h0_2.ul a18) e23)) ?_
 rintro v0_24 _ ⟨W24, rfl, l24, ⟨_, rfl, f24_0⟩⟩
 have a25 := a18.n l24
 have o26 := o16.up l24
 refine mc d16 l24 fun d24 => Mw.p rfl rfl (fun _ => R.bd (zs := [.slice none 0 0, vS ([] : Str), .slice none 0 0]) (cs := [v16, vS x0.Who, v0_24]) [(0, v16), (1, vS x0.Who), (2, v0_24)] rfl rfl rfl (bp_cons o26.oc rfl (bp_cons rfl rfl (bp_cons f24_0.oc rfl bp_nil)))) (Mw.lu rfl (T.sta (vs := [v16, vS x0.Who, v0_24]) ((((b3.up l6).up l10).up l16).up l24) rfl rfl (oc_cons o26.oc (oc_cons rfl (oc_cons f24_0.oc oc_nil))) rfl rfl) ?_)
 rintro _ _ ⟨W29, rfl, l29, b29⟩
 have a30 := a25.t l29
 refine Mw.nil ?_
 obtain ⟨W34, ew34, l34, o34⟩ := (o26.up l29).dyeO 31
 have a35 := a30.t l34
 obtain ⟨W39, ew39, l39, o39⟩ := ((f24_0.up l29).up l34).dyeO 32
 have a40 := a35.t l39
 cases hm
 rw [← ew39.trans (ew34)]
 exact Cw.ret (retA1 rfl ((b29.up l34).up l39) (Res.mk a40 ⟨v16, v0_24, rfl, (o34.up l39).s, o39.s⟩))

theorem p62 {x0 v0_0_ v0_2_ k0 k1 r} (h0 : Rd W K [v0_0_, vS x0.Who, v0_2_] x0) (hm : Vm.spec_l7CopyCommit x0 = some r) : Q1 62 [.agg [v0_0_, vS x0.Who, v0_2_].toArray] W [] fun W' v => ∃ u0_0 u0_2, v = .agg [u0_0, vS r.Who, u0_2].toArray ∧ Ow W' k0 [] [u0_0] r.Parents ∧ Ow W' k1 [] [u0_2] r.Tree :=
 CallR.adJ (J := []) (fun c => bif Nat.beq c 0 then 0 else bif Nat.beq c 31 then k0 else bif Nat.beq c 32 then k1 else 0) (c62 (h0.view _) hm) fun _ _ ⟨u0_0, u0_2, e, f0, f1⟩ => ⟨u0_0, u0_2, e, f0.one1.backN rfl, f1.one1.backN rfl⟩

theorem c46 {x0 v0_0_ v0_1_ r} (h0 : Rd W0 [0] [v0_0_, v0_1_] x0) (hm : Vm.spec_l7Copy x0 = some r) : Q0 46 [.agg [v0_0_, v0_1_].toArray] W0 fun Wf v => ∃ u0_0 u0_1, v = .agg [u0_0, u0_1].toArray ∧ OwS Wf [31] [] [u0_0] r.Commits ∧ OwS Wf [32] [] [u0_1] r.Heads := by
 unfold Vm.spec_l7Copy at hm
 obtain ⟨w0_0, w0_1, he0, h0_0, h0_1⟩ := Repo.split h0
 simp only [List.cons.injEq, and_true, true_and] at he0
 obtain ⟨rfl, rfl⟩ := he0
 refine CallR.of Tryd.func46 rfl rfl rfl rfl (sr (bo 2 rfl fun g1 W1 l1 b1 => ?_))
 have a2 := l1.o
 refine al 3 [.slice none 0 0, .slice none 0 0] fun g3 W3 l3 b3 => ?_
 have a4 := a2.n l3
 refine nl (sr (Lw.t rfl (T.lit0 (α := Head) 4 []) ?_))
 rintro v6 _ ⟨W6, rfl, l6, o6⟩
 have a7 := a4.n l6
 have b8 := (b1.up l3).up l6
 refine fl b8 rfl ?_
 obtain ⟨q10, e11, hm⟩ := ob hm
 refine Lw.t rfl (T.appP (α := Head) o6 (h0_1.ul a7) rfl rfl e11) ?_
 rintro v12 _ ⟨W12, rfl, l12, o12⟩
 have a14 := a7.t l12
 refine Lw.r rfl (R.bd (zs := [.slice none 0 0, .slice none 0 0]) (cs := [.slice none 0 0, v12]) [(1, v12)] rfl rfl rfl (bp_cons o12.oc rfl bp_nil)) (al 5 [.slice none 0 0, .slice none 0 0] fun g17 W17 l17 b17 => ?_)
 have a18 := a14.n l17
 refine sta b17 (oc_cons rfl (oc_cons (o12.up l17).oc oc_nil)) fun W22 l22 b22 => ?_
 have a23 := a18.t l22
 refine nl (ssr (Ni rfl (Cw.block ?_)))
 obtain ⟨K36, hK36, hm⟩ := jn_e hm
 refine Cw.loop 10 27 [4] (fun m l w => ∃ y27 y28 y31 v29 v32 W35, CW.w W35 = w ∧ Le [5, 6, 7, 8] W22 W35 ∧ l = [vI y27] ∧ Ow W35 6 [] [v29] y28 ∧ Ow W35 4 [] [v32] y31 ∧ Bx W35 5 g17 [v29, v32] ∧ Vm.spec_l7Copy_l1 x0 K36 m y27 y28 y31 = some r) _ ⟨0, ([] : List Commit), q10, .slice none 0 0, v12, W22, rfl, Le.refl _ _, rfl, owN 6 [], ((o12.up l17).up l22), b22, hm⟩ ?_
 rintro (_ | m37) _ _ σ ⟨y27, y28, y31, v29, v32, W35, rfl, l35, rfl, o30, o33, b34, hm⟩
 ·cases hm
 unfold Vm.spec_l7Copy_l1 at hm
 have a38 := a23.t l35
 have b39 := (((b8.up l12).up l17).up l22).up l35
 refine ssr (mi rfl (fl b39 rfl (Lw.ln x0.Commits (h0_0.ul a38) rfl (Lw.lt rfl (nl (cn hm (fun hm => ?_) fun hm => ?_))))))
 ·refine sk (Cw.seq (Cw.block (Cw.draw [6, 7, 8] [(0, 0), (1, 1), (2, 0), (3, 1), (4, 0), (5, 0), (6, 1), (7, 2), (8, 2), (9, 2), (10, 0), (11, 3)] mixed (by kernel_rfl) fun W43 l43 => ?_)))
  have a44 := a38.n l43
  refine Dfl (b34.up l43) rfl rfl rfl (Dfl (b39.up l43) rfl rfl rfl (Di rfl ?_))
  obtain ⟨u50, e51, hm⟩ := ob hm
  have s52 := h0_0.ul a44
  refine Mw.p rfl rfl (fun _ => R.ix (α := Commit) s52 e51 rfl rfl rfl) ?_
  obtain ⟨x53, c54, _, r55⟩ := (s52.at_ e51).cells
  obtain ⟨v56, v58, rfl, r57, r59⟩ := Commit.split r55
  refine Mw.q rfl rfl (fun _ c => R.lda (cl_cells (s52.at_ e51).1 rfl c54 c) rfl rfl) (Dc hm (Le.refl _ _) (fun _ => p62 (k0 := 7) (k1 := 8) (Commit.rd (K := [0]) u50.Parents u50.Who u50.Tree r57 r59)) rfl ?_)
  rintro z60 _ W62 hm l62 ⟨v0_0_62, v0_2_62, rfl, f62_0, f62_1⟩ d62
  refine Mw.t rfl rfl (T.bs 9 [.agg [v0_0_62, vS z60.Who, v0_2_62].toArray] (cs := [v0_0_62, vS z60.Who, v0_2_62]) rfl rfl (bsA rfl)) ?_
  rintro _ _ ⟨g69, W69, rfl, rfl, l69, b69⟩
  refine mc d62 l69 fun d69 => ?_
  obtain ⟨q78, e79, hm⟩ := ob hm
  refine Mw.t rfl rfl (T.app1 (α := Commit) (J := [7, 8]) (K' := []) (((o30.up l43).up l62).up l69) b69 (Commit.own z60.Parents z60.Who z60.Tree (f62_0.up l69).s (f62_1.up l69).s) rfl rfl e79) ?_
  rintro v80 _ ⟨W80, rfl, l80, o80⟩
  refine mc d69 l80 fun d80 => Df rfl (Mw.lu rfl (T.st (j := 0) (v := v80) ((((b34.up l43).up l62).up l69).up l80) rfl rfl o80.oc rfl rfl) ?_)
  rintro _ _ ⟨W87, rfl, l87, b87⟩
  exact Mw.nil (rg (mi rfl (Lw.add rfl (Ni rfl ((agm) ⟨w64 (y27 + 1), q78, y31, v80, v32, W87, rfl, (((((l35.j l43).j l62).j l69).j l80).j l87).w, rfl, (o80.up l87), (((((o33.up l43).up l62).up l69).up l80).up l87), b87, hm⟩)))))
 ·refine Cw.exit ?_
  rw [hK36] at hm
  refine sr (la b34 (sta (((((b3.up l6).up l12).up l17).up l22).up l35) (oc_cons o30.oc (oc_cons o33.oc oc_nil)) fun W94 l94 b94 => ?_))
  have a95 := a38.t l94
  refine nl ?_
  obtain ⟨W100, ew100, l100, o100⟩ := (o30.up l94).dyeO 31
  have a101 := a95.t l100
  obtain ⟨W106, ew106, l106, o106⟩ := ((o33.up l94).up l100).dyeO 32
  have a107 := a101.t l106
  cases hm
  rw [← ew106.trans (ew100)]
  exact Cw.ret (retA1 rfl ((b94.up l100).up l106) (Res.mk a107 ⟨v29, v32, rfl, (o100.up l106).s, o106.s⟩))

theorem p46 {x0 v0_0_ v0_1_ k0 k1 r} (h0 : Rd W K [v0_0_, v0_1_] x0) (hm : Vm.spec_l7Copy x0 = some r) : Q1 46 [.agg [v0_0_, v0_1_].toArray] W [] fun W' v => ∃ u0_0 u0_1, v = .agg [u0_0, u0_1].toArray ∧ Ow W' k0 [] [u0_0] r.Commits ∧ Ow W' k1 [] [u0_1] r.Heads :=
 CallR.adJ (J := []) (fun c => bif Nat.beq c 0 then 0 else bif Nat.beq c 31 then k0 else bif Nat.beq c 32 then k1 else 0) (c46 (h0.view _) hm) fun _ _ ⟨u0_0, u0_1, e, f0, f1⟩ => ⟨u0_0, u0_1, e, f0.one1.backN rfl, f1.one1.backN rfl⟩

theorem c64 {x0 v0_0_ v0_1_ x1 x2 r} (h0 : Rd W0 [0] [v0_0_, v0_1_] x0) (hm : Vm.spec_l7Head x0 x1 x2 = some r) : Q0 64 [.agg [v0_0_, v0_1_].toArray, vS x1, vI x2] W0 fun Wf v => ∃ u0_0 u0_1, v = .agg [u0_0, u0_1].toArray ∧ Rd Wf [0] [u0_0] r.Commits ∧ Rd Wf [0] [u0_1] r.Heads := by
 unfold Vm.spec_l7Head at hm
 obtain ⟨w0_0, w0_1, he0, h0_0, h0_1⟩ := Repo.split h0
 simp only [List.cons.injEq, and_true, true_and] at he0
 obtain ⟨rfl, rfl⟩ := he0
 refine CallR.of Tryd.func64 rfl rfl rfl rfl (sr (bo 2 rfl fun g1 W1 l1 b1 => ?_))
 have a2 := l1.o
 refine al 3 [.slice none 0 0, .slice none 0 0] fun g3 W3 l3 b3 => ?_
 have a4 := a2.n l3
 refine nl (sr (fl (b1.up l3) rfl (Lw.r rfl (R.bd (zs := [.slice none 0 0, .slice none 0 0]) (cs := [v0_0_, .slice none 0 0]) [(0, v0_0_)] rfl rfl rfl (bp_cons h0_0.oc rfl bp_nil)) (al 4 [.slice none 0 0, .slice none 0 0] fun g6 W6 l6 b6 => ?_))))
 have a7 := a4.n l6
 refine sta b6 (oc_cons h0_0.oc (oc_cons rfl oc_nil)) fun W10 l10 b10 => ?_
 have a11 := a7.t l10
 refine nl (sr (Nb rfl (ssr (Ni rfl (Cw.block ?_)))))
 obtain ⟨K24, hK24, hm⟩ := jn_e hm
 refine Cw.loop 13 57 [8, 9] (fun m l w => ∃ y14 y15 y16 y19 v17 v20 W23, CW.w W23 = w ∧ Le [4, 5] W10 W23 ∧ l = [vB y14, vI y15] ∧ Rd W23 [0] [v17] y16 ∧ Ow W23 5 [] [v20] y19 ∧ Bx W23 4 g6 [v17, v20] ∧ Vm.spec_l7Head_l1 x0 x1 x2 K24 m y14 y15 y16 y19 = some r) _ ⟨false, 0, x0.Commits, ([] : List Head), v0_0_, .slice none 0 0, W10, rfl, Le.refl _ _, rfl, (h0_0.ul a11), owN 5 [], b10, hm⟩ ?_
 rintro (_ | m26) _ _ σ ⟨y14, y15, y16, y19, v17, v20, W23, rfl, l23, rfl, r18, o21, b22, hm⟩
 ·cases hm
 unfold Vm.spec_l7Head_l1 at hm
 have a27 := a11.t l23
 have b28 := (((b1.up l3).up l6).up l10).up l23
 refine ssr ?_
 have s30 := h0_1.ul a27
 refine mi rfl (fl b28 rfl (Lw.ln x0.Heads s30 rfl (Lw.lt rfl (nl (cn hm (fun hm => ?_) fun hm => ?_)))))
 ·refine sk ?_
  obtain ⟨K41, hK41, hm⟩ := jn_e hm
  refine Cw.join 20 57 [8] (fun l w => ∃ y32 y33 y36 v34 v37 W40, CW.w W40 = w ∧ Le [4, 5] W23 W40 ∧ l = [vB y32] ∧ Rd W40 [0] [v34] y33 ∧ Ow W40 5 [] [v37] y36 ∧ Bx W40 4 g6 [v34, v37] ∧ K41 y32 y33 y36 = some r) ?_ ?_
  ·rintro _ _ σ ⟨y32, y33, y36, v34, v37, W40, rfl, l40, rfl, r35, o38, b39, hm⟩
   rw [hK41] at hm
   exact rg (mi rfl (Lw.add rfl (Ni rfl ((agm) ⟨y32, w64 (y15 + 1), y33, y36, v34, v37, W40, rfl, (l23.j l40).w, rfl, r35, o38, b39, hm⟩))))
  ·refine Cw.block ?_
   obtain ⟨K54, hK54, hm⟩ := jn_e hm
   refine Cw.join 20 39 [8] (fun l w => ∃ y45 y46 y49 v47 v50 W53, CW.w W53 = w ∧ Le [4, 5] W23 W53 ∧ l = [vB y45] ∧ Rd W53 [0] [v47] y46 ∧ Ow W53 5 [] [v50] y49 ∧ Bx W53 4 g6 [v47, v50] ∧ K54 y45 y46 y49 = some r) ?_ ?_
   ·rintro _ _ σ ⟨y45, y46, y49, v47, v50, W53, rfl, l53, rfl, r48, o51, b52, hm⟩
    rw [hK54] at hm
    have a55 := a27.t l53
    refine sr (fl (b28.up l53) rfl (mi rfl ?_))
    obtain ⟨u58, e59, hm⟩ := ob hm
    refine Lw.r rfl (R.ix (α := Head) (h0_1.ul a55) e59 rfl rfl rfl) (Lw.fa rfl (Lw.r rfl (R.ld rfl rfl (Head.at0 ((h0_1.ul a55).at_ e59)).str) (ms rfl (Lw.sne rfl (nl (cn hm (fun hm => ?_) fun hm => ?_))))))
    ·refine Cw.draw [5] [(0, 0), (1, 1), (2, 0), (3, 1), (4, 0), (5, 0), (6, 1), (7, 2), (8, 2), (9, 0), (10, 3)] mixed (by kernel_rfl) fun W62 l62 => ?_
     have a63 := l62.o
     refine Dfl (b52.up l62) rfl rfl rfl (Dfl ((b28.up l53).up l62) rfl rfl rfl (Di rfl ?_))
     obtain ⟨u68, e69, hm⟩ := ob hm
     have s70 := h0_1.ul (a55.trans a63)
     refine Mw.p rfl rfl (fun _ => R.ix (α := Head) s70 e69 rfl rfl rfl) ?_
     obtain ⟨x71, c72, _, r73⟩ := (s70.at_ e69).cells
     obtain rfl := Head.split r73
     refine Mw.q rfl rfl (fun _ c => R.lda (cl_cells (s70.at_ e69).1 rfl c72 c) rfl rfl) (Mw.t rfl rfl (T.bs 6 [.agg [vS u68.Name, vI u68.At].toArray] (cs := [vS u68.Name, vI u68.At]) rfl rfl (bsA rfl)) ?_)
     rintro _ _ ⟨g74, W74, rfl, rfl, l74, b74⟩
     have a75 := a63.n l74
     refine m0 l74 fun d74 => ?_
     obtain ⟨q80, e81, hm⟩ := ob hm
     refine Mw.t rfl rfl (T.app1S (α := Head) (K' := []) ((o51.up l62).up l74) b74 (Head.rd (K := []) u68.Name u68.At) rfl rfl e81) ?_
     rintro v82 _ ⟨W82, rfl, l82, o82⟩
     have a83 := a75.t l82
     refine mc d74 l82 fun d82 => Df rfl (Mw.lu rfl (T.st (j := 1) (v := v82) (((b52.up l62).up l74).up l82) rfl rfl o82.oc rfl rfl) ?_)
     rintro _ _ ⟨W88, rfl, l88, b88⟩
     have a89 := a83.t l88
     exact Mw.nil ((ag) ⟨y45, y46, q80, v47, v82, W88, rfl, ((((l53.j l62).j l74).j l82).j l88).w, rfl, (r48.ul a89), (o82.up l88), b88, hm⟩)
    ·exact sk ((ag) ⟨y45, y46, y49, v47, v50, W53, rfl, l53, rfl, r48, o51, b52, hm⟩)
   ·obtain ⟨K97, hK97, hm⟩ := jn_e hm
    refine Cw.join 20 31 [31] (fun l w => ∃ y95 W96, CW.w W96 = w ∧ Le [] W23 W96 ∧ l = [vB y95] ∧ K97 y95 = some r) ?_ ?_
    ·rintro _ _ σ ⟨y95, W96, rfl, l96, rfl, hm⟩
     rw [hK97] at hm
     have a98 := l96.o
     have b102 := b22.up l96
     refine cn hm (fun hm => ?_) fun hm => ?_
     ·refine sr (fl b102 rfl (ms rfl (mi rfl (Lw.r rfl (R.bd (zs := [vS ([] : Str), vI 0]) (cs := [vS x1, vI x2]) [(0, vS x1), (1, vI x2)] rfl rfl rfl (bp_cons rfl rfl (bp_cons rfl rfl bp_nil))) (Lw.t rfl (T.bs 7 [.agg [vS x1, vI x2].toArray] (cs := [vS x1, vI x2]) rfl rfl (bsA rfl)) ?_)))))
      rintro _ _ ⟨g104, W104, rfl, rfl, l104, b104⟩
      have a105 := a98.n l104
      obtain ⟨q110, e111, hm⟩ := ob hm
      refine Lw.t rfl (T.app1S (α := Head) (K' := []) ((o21.up l96).up l104) b104 (Head.rd (K := []) x1 x2) rfl rfl e111) ?_
      rintro v112 _ ⟨W112, rfl, l112, o112⟩
      have a113 := a105.t l112
      refine Lw.fa rfl (Lw.u (T.st (j := 1) (v := v112) ((b102.up l104).up l112) rfl rfl o112.oc rfl rfl) ?_)
      rintro _ _ ⟨W118, rfl, l118, b118⟩
      have a119 := a113.t l118
      exact nl (rg (Nb rfl ((ag) ⟨true, y16, q110, v17, v112, W118, rfl, (((l96.j l104).j l112).j l118).w, rfl, (r18.ul a119), (o112.up l118), b118, hm⟩)))
     ·exact sk ((ag) ⟨y14, y16, y19, v17, v20, W96, rfl, l96.w, rfl, (r18.ul a98), (o21.up l96), b102, hm⟩)
    ·refine rg (mb rfl (Lw.r rfl (R.not rfl) (mb rfl (bs hm (fun hc126 hm => ?_) fun hc126 hm => ?_))))
     ·refine wak 8 hc126 (fl b28 rfl (mi rfl ?_))
      obtain ⟨u127, e128, hm⟩ := ob hm
      exact Lw.r rfl (R.ix (α := Head) s30 e128 rfl rfl rfl) (Lw.fa rfl (Lw.r rfl (R.ld rfl rfl (Head.at0 (s30.at_ e128)).str) (ms rfl (Lw.r rfl (R.sge rfl rfl) (Pb hc126 rfl (nl ((ag) ⟨(!Op.bytesLess u127.Name x1), W23, rfl, Le.refl _ _, rfl, hm⟩)))))))
     ·exact psk 8 hc126 rfl (Pb hc126 rfl (nl ((ag) ⟨false, W23, rfl, Le.refl _ _, rfl, hm⟩)))
 ·refine Cw.exit ?_
  rw [hK24] at hm
  obtain ⟨K137, hK137, hm⟩ := jn_e hm
  refine Cw.join 58 67 [] (fun l w => ∃ y129 y132 v130 v133 W136, CW.w W136 = w ∧ Le [4, 5] W23 W136 ∧ l = [] ∧ Rd W136 [0] [v130] y129 ∧ Ow W136 5 [] [v133] y132 ∧ Bx W136 4 g6 [v130, v133] ∧ K137 y129 y132 = some r) ?_ ?_
  ·rintro _ _ σ ⟨y129, y132, v130, v133, W136, rfl, l136, rfl, r131, o134, b135, hm⟩
   rw [hK137] at hm
   have a138 := a27.t l136
   refine sr (la b135 (sta ((((b3.up l6).up l10).up l23).up l136) (oc_cons r131.oc (oc_cons o134.oc oc_nil)) fun W141 l141 b141 => ?_))
   have a142 := l141.s
   refine nl ?_
   obtain ⟨W146, ew146, l146, dj146⟩ := dyeE _ 5
   have s147 : Rd (α := List Vm.Head) W146 [0] [v133] y132 := by rw [dj146]; exact ((o134.up l141).rd.dye 5).sub (M := [0]) rfl
   have a148 := l146.s
   cases hm
   rw [← ew146]
   exact Cw.ret (retA1 rfl (b141.up l146) (Res.mk ((a138.trans a142).trans a148) ⟨v130, v133, rfl, (r131.ul (a142.trans a148)), s147⟩))
  ·refine sr (mb rfl (Lw.r rfl (R.not rfl) (nl (cn hm (fun hm => ?_) fun hm => ?_))))
   ·refine rg (fl b22 rfl (ms rfl (mi rfl (Lw.r rfl (R.bd (zs := [vS ([] : Str), vI 0]) (cs := [vS x1, vI x2]) [(0, vS x1), (1, vI x2)] rfl rfl rfl (bp_cons rfl rfl (bp_cons rfl rfl bp_nil))) (Lw.t rfl (T.bs 8 [.agg [vS x1, vI x2].toArray] (cs := [vS x1, vI x2]) rfl rfl (bsA rfl)) ?_)))))
    rintro _ _ ⟨g154, W154, rfl, rfl, l154, b154⟩
    have a155 := l154.o
    obtain ⟨q160, e161, hm⟩ := ob hm
    refine Lw.t rfl (T.app1S (α := Head) (K' := []) (o21.up l154) b154 (Head.rd (K := []) x1 x2) rfl rfl e161) ?_
    rintro v162 _ ⟨W162, rfl, l162, o162⟩
    have a163 := a155.t l162
    refine Lw.fa rfl (Lw.u (T.st (j := 1) (v := v162) ((b22.up l154).up l162) rfl rfl o162.oc rfl rfl) ?_)
    rintro _ _ ⟨W168, rfl, l168, b168⟩
    have a169 := a163.t l168
    exact nl ((ag) ⟨y16, q160, v17, v162, W168, rfl, ((l154.j l162).j l168).w, rfl, (r18.ul a169), (o162.up l168), b168, hm⟩)
   ·exact sk ((ag) ⟨y16, y19, v17, v20, W23, rfl, Le.refl _ _, rfl, r18, o21, b22, hm⟩)

theorem p64 {x0 v0_0_ v0_1_ x1 x2 r} (h0 : Rd W K [v0_0_, v0_1_] x0) (hm : Vm.spec_l7Head x0 x1 x2 = some r) : Q1 64 [.agg [v0_0_, v0_1_].toArray, vS x1, vI x2] W [] fun W' v => ∃ u0_0 u0_1, v = .agg [u0_0, u0_1].toArray ∧ Rd W' (0 :: K) [u0_0] r.Commits ∧ Rd W' (0 :: K) [u0_1] r.Heads :=
 (c64 (h0.view _) hm).ad (fk 0) fun _ _ ⟨u0_0, u0_1, e, f0, f1⟩ => ⟨u0_0, u0_1, e, f0.back rfl, f1.back rfl⟩

theorem c45 {x0 v0_0_ v0_1_ x1 x2 v2_0_ v2_2_ r} (h0 : Rd W0 [0] [v0_0_, v0_1_] x0) (h2 : Rd W0 [0] [v2_0_, vS x2.Who, v2_2_] x2) (hm : Vm.spec_l7Add x0 x1 x2 = some r) : Q0 45 [.agg [v0_0_, v0_1_].toArray, vS x1, .agg [v2_0_, vS x2.Who, v2_2_].toArray] W0 fun Wf v => ∃ u0_0 u0_1, v = .agg [u0_0, u0_1].toArray ∧ Rd Wf [0] [u0_0] r.Commits ∧ Rd Wf [0] [u0_1] r.Heads := by
 unfold Vm.spec_l7Add at hm
 obtain ⟨w0_0, w0_1, he0, h0_0, h0_1⟩ := Repo.split h0
 simp only [List.cons.injEq, and_true, true_and] at he0
 obtain ⟨rfl, rfl⟩ := he0
 obtain ⟨w2_0, w2_1, he2, h2_0, h2_2⟩ := Commit.split h2
 simp only [List.cons.injEq, and_true, true_and] at he2
 obtain ⟨rfl, rfl⟩ := he2
 refine CallR.of Tryd.func45 rfl rfl rfl rfl (sr (bo 2 rfl fun g1 W1 l1 b1 => ?_))
 have a2 := l1.o
 refine bo 3 rfl fun g3 W3 l3 b3 => ?_
 have a4 := a2.n l3
 refine al 4 [.slice none 0 0, .slice none 0 0] fun g6 W6 l6 b6 => ?_
 have a7 := a4.n l6
 refine nl (Cw.seq ?_)
 obtain ⟨q26, e27, hm⟩ := ob hm
 obtain ⟨q41, e42, hm⟩ := ob hm
 refine Cw.par [[], [], [1], [0, 1, 2], [], [4], [0, 1, 2, 3, 4, 5], [], [7], [0, 1, 2, 3, 4, 5, 6, 7, 8], [], [0, 1, 2, 3, 4, 5, 6, 7, 8, 9, 10]] [[], [], [1], [0, 2], [], [4], [3, 5], [], [7], [6, 8], [], [6, 9, 10]] [[], [], [], [5], [], [], [5], [], [], [], [], [7]] [[0], [1], [2], [3], [4], [5], [6], [7], [8], [6, 9], [10], [6, 10]] [[5], [], [], [0, 5], [], [6], [0, 5], [], [], [], [7], [7]] [1, 2, 4, 5, 6, 7, 8, 9, 11] [5, 7] [fun vs W => Ow W 5 [] [(vs 0)] ([] : List Commit), fun vs W => (vs 1) = ptr ((bx g1).add 0), fun vs W => (vs 2) = v0_0_, fun vs W => Ow (α := List (Sh Vm.Commit)) W 5 [0] [(vs 3)] q26, fun vs W => (vs 4) = .agg [v2_0_, vS x2.Who, v2_2_].toArray, fun vs W => (vs 5) = .slice (some (bx (pg (vs 5)))) 1 1 ∧ Bx W 6 (pg (vs 5)) [v2_0_, vS x2.Who, v2_2_], fun vs W => Ow (α := List (Sh Vm.Commit)) W 5 [0] [(vs 6)] q41, fun vs W => (vs 7) = ptr ((bx g1).add 1), fun vs W => (vs 8) = v0_1_, fun vs W => (vs 9) = .agg [(vs 6), v0_1_].toArray, fun vs W => (vs 10) = ptr (bx (pg (vs 10))) ∧ Bx W 7 (pg (vs 10)) [.slice none 0 0, .slice none 0 0], fun vs W => (vs 10) = ptr (bx (pg (vs 10))) ∧ Bx W 7 (pg (vs 10)) [(vs 6), v0_1_]] [] mixed (by kernel_rfl) rfl AllF.nil ?_
 intro W63 l63
 have a64 := a7.n l63
 have b65 := ((b1.up l3).up l6).up l63
 refine ⟨(Steps.cons ?_ (Steps.cons ?_ (Steps.cons ?_ (Steps.cons ?_ (Steps.cons ?_ (Steps.cons ?_ (Steps.cons ?_ (Steps.cons ?_ (Steps.cons ?_ (Steps.cons ?_ (Steps.cons ?_ (Steps.cons ?_ Steps.nil)))))))))))), (Sups.cons (fun vs vs' W W' _ hv l hd h => by (show Ow W' 5 [] [(vs' 0)] ([] : List Commit)); rw [hv 0 (anyb rfl)]; exact h.upv l (disj_mem hd (c := 5) rfl)) (Sups.cons (fun vs vs' W W' _ hv l hd h => by (show (vs' 1) = ptr ((bx g1).add 0)); rw [hv 1 (anyb rfl)]; exact h) (Sups.cons (fun vs vs' W W' _ hv l hd h => by (show (vs' 2) = v0_0_); rw [hv 2 (anyb rfl)]; exact h) (Sups.cons (fun vs vs' W W' _ hv l hd h => by (show Ow (α := List (Sh Vm.Commit)) W' 5 [0] [(vs' 3)] q26); rw [hv 3 (anyb rfl)]; exact h.up l (disj_sub hd (K := [5, 0]) rfl)) (Sups.cons (fun vs vs' W W' _ hv l hd h => by (show (vs' 4) = .agg [v2_0_, vS x2.Who, v2_2_].toArray); rw [hv 4 (anyb rfl)]; exact h) (Sups.cons (fun vs vs' W W' _ hv l hd h => by (show (vs' 5) = .slice (some (bx (pg (vs' 5)))) 1 1 ∧ Bx W' 6 (pg (vs' 5)) [v2_0_, vS x2.Who, v2_2_]); rw [hv 5 (anyb rfl)]; exact ⟨h.1, h.2.up l (disj_mem hd (c := 6) rfl)⟩) (Sups.cons (fun vs vs' W W' _ hv l hd h => by (show Ow (α := List (Sh Vm.Commit)) W' 5 [0] [(vs' 6)] q41); rw [hv 6 (anyb rfl)]; exact h.up l (disj_sub hd (K := [5, 0]) rfl)) (Sups.cons (fun vs vs' W W' _ hv l hd h => by (show (vs' 7) = ptr ((bx g1).add 1)); rw [hv 7 (anyb rfl)]; exact h) (Sups.cons (fun vs vs' W W' _ hv l hd h => by (show (vs' 8) = v0_1_); rw [hv 8 (anyb rfl)]; exact h) (Sups.cons (fun vs vs' W W' _ hv l hd h => by (show (vs' 9) = .agg [(vs' 6), v0_1_].toArray); rw [hv 6 (anyb rfl), hv 9 (anyb rfl)]; exact h) (Sups.cons (fun vs vs' W W' _ hv l hd h => by (show (vs' 10) = ptr (bx (pg (vs' 10))) ∧ Bx W' 7 (pg (vs' 10)) [.slice none 0 0, .slice none 0 0]); rw [hv 10 (anyb rfl)]; exact ⟨h.1, h.2.up l (disj_mem hd (c := 7) rfl)⟩) (Sups.cons (fun vs vs' W W' _ hv l hd h => by (show (vs' 10) = ptr (bx (pg (vs' 10))) ∧ Bx W' 7 (pg (vs' 10)) [(vs' 6), v0_1_]); rw [hv 6 (anyb rfl), hv 10 (anyb rfl)]; exact ⟨h.1, h.2.up l (disj_mem hd (c := 7) rfl)⟩) Sups.nil)))))))))))), ?_⟩
 ·intro vs W lW hN
  obtain ⟨W68, hW68⟩ : ∃ X, X = W := ⟨W, rfl⟩
  subst hW68
  refine Tr.mono (T.lit0 (α := Commit) 5 []) ?_
  rintro v73 _ ⟨W73, rfl, l73, o73⟩
  exact ⟨W73, rfl, l73, (show Ow W73 5 [] [v73] ([] : List Commit) from o73)⟩
 ·intro vs W lW hN
  obtain ⟨W78, hW78⟩ : ∃ X, X = W := ⟨W, rfl⟩
  subst hW78
  refine Tr.mono (Run.tr (R.fa rfl)) ?_
  rintro _ _ ⟨hu, rfl⟩
  obtain rfl := hu.symm
  exact ⟨W78, rfl, Le.refl _ _, (show (ptr ((bx g1).add 0) : Value) = ptr ((bx g1).add 0) from rfl)⟩
 ·intro vs W lW hN
  obtain ⟨W83, hW83⟩ : ∃ X, X = W := ⟨W, rfl⟩
  subst hW83
  have e1_ : vs 1 = ptr ((bx g1).add 0) := (hN 1 (anyb rfl))
  obtain ⟨vs, rfl⟩ := up_eq e1_
  refine Tr.mono (Run.tr (R.ld (v := v0_0_) rfl rfl ((b65.up lW rfl).cell rfl))) ?_
  rintro _ _ ⟨hu, rfl⟩
  obtain rfl := hu.symm
  exact ⟨W83, rfl, Le.refl _ _, (show (v0_0_ : Value) = v0_0_ from rfl)⟩
 ·intro vs W lW hN
  obtain ⟨W88, hW88⟩ : ∃ X, X = W := ⟨W, rfl⟩
  subst hW88
  have a89 := a64.t lW rfl
  obtain ⟨pv0, e0_⟩ : ∃ v, vs 0 = v := ⟨_, rfl⟩
  obtain ⟨vs, rfl⟩ := up_eq e0_
  have o93 : Ow W88 5 [] [pv0] ([] : List Commit) := (hN 0 (anyb rfl))
  have e2_ : vs 2 = v0_0_ := (hN 2 (anyb rfl))
  obtain ⟨vs, rfl⟩ := up_eq e2_
  obtain ⟨W94, ew94, l94, o94⟩ := o93.toSh
  rw [← ew94]
  have a95 := a89.t l94
  refine Tr.mono (T.appS (α := Sh Vm.Commit) (K' := [0]) o94 (h0_0.ul a95).shL rfl rfl e27) ?_
  rintro v100 _ ⟨W100, rfl, l100, o100⟩
  exact ⟨W100, rfl, ((l94.sub (M := [5]) rfl).trans (l100.sub (M := [5]) rfl)), (show Ow (α := List (Sh Vm.Commit)) W100 5 [0] [v100] q26 from o100)⟩
 ·intro vs W lW hN
  obtain ⟨W105, hW105⟩ : ∃ X, X = W := ⟨W, rfl⟩
  subst hW105
  refine Tr.mono (Run.tr (R.lda (cs := [v2_0_, vS x2.Who, v2_2_]) (((b3.up l6).up l63).up lW rfl).cells rfl rfl)) ?_
  rintro _ _ ⟨hu, rfl⟩
  obtain rfl := hu.symm
  exact ⟨W105, rfl, Le.refl _ _, (show (.agg [v2_0_, vS x2.Who, v2_2_].toArray : Value) = .agg [v2_0_, vS x2.Who, v2_2_].toArray from rfl)⟩
 ·intro vs W lW hN
  obtain ⟨W110, hW110⟩ : ∃ X, X = W := ⟨W, rfl⟩
  subst hW110
  have e4_ : vs 4 = .agg [v2_0_, vS x2.Who, v2_2_].toArray := (hN 4 (anyb rfl))
  obtain ⟨vs, rfl⟩ := up_eq e4_
  refine Tr.mono (T.bs 6 [.agg [v2_0_, vS x2.Who, v2_2_].toArray] (cs := [v2_0_, vS x2.Who, v2_2_]) rfl rfl (bsA rfl)) ?_
  rintro _ _ ⟨g115, W115, rfl, rfl, l115, b115⟩
  exact ⟨W115, rfl, l115, (show (.slice (some (bx g115)) 1 1 : Value) = .slice (some (bx g115)) 1 1 ∧ Bx W115 6 g115 [v2_0_, vS x2.Who, v2_2_] from ⟨rfl, b115⟩)⟩
 ·intro vs W lW hN
  obtain ⟨W120, hW120⟩ : ∃ X, X = W := ⟨W, rfl⟩
  subst hW120
  have a121 := a64.t lW rfl
  obtain ⟨pv3, e3_⟩ : ∃ v, vs 3 = v := ⟨_, rfl⟩
  obtain ⟨vs, rfl⟩ := up_eq e3_
  have o125 : Ow (α := List (Sh Vm.Commit)) W120 5 [0] [pv3] q26 := (hN 3 (anyb rfl))
  obtain ⟨pg5, e5_⟩ : ∃ pg5, vs 5 = .slice (some (bx pg5)) 1 1 := ⟨_, ((hN 5 (anyb rfl))).1⟩
  obtain ⟨vs, rfl⟩ := up_eq e5_
  have o126 : Bx W120 6 pg5 [v2_0_, vS x2.Who, v2_2_] := (hN 5 (anyb rfl)).2
  refine Tr.mono (T.app1S (α := Sh Vm.Commit) (K' := [0]) o125 o126 (Commit.rd (K := [0]) x2.Parents x2.Who x2.Tree (h2_0.ul a121) (h2_2.ul a121)).sh1 rfl rfl e42) ?_
  rintro v129 _ ⟨W129, rfl, l129, o129⟩
  exact ⟨W129, rfl, l129, (show Ow (α := List (Sh Vm.Commit)) W129 5 [0] [v129] q41 from o129)⟩
 ·intro vs W lW hN
  obtain ⟨W135, hW135⟩ : ∃ X, X = W := ⟨W, rfl⟩
  subst hW135
  refine Tr.mono (Run.tr (R.fa rfl)) ?_
  rintro _ _ ⟨hu, rfl⟩
  obtain rfl := hu.symm
  exact ⟨W135, rfl, Le.refl _ _, (show (ptr ((bx g1).add 1) : Value) = ptr ((bx g1).add 1) from rfl)⟩
 ·intro vs W lW hN
  obtain ⟨W140, hW140⟩ : ∃ X, X = W := ⟨W, rfl⟩
  subst hW140
  have e7_ : vs 7 = ptr ((bx g1).add 1) := (hN 7 (anyb rfl))
  obtain ⟨vs, rfl⟩ := up_eq e7_
  refine Tr.mono (Run.tr (R.ld (v := v0_1_) rfl rfl ((b65.up lW rfl).cell rfl))) ?_
  rintro _ _ ⟨hu, rfl⟩
  obtain rfl := hu.symm
  exact ⟨W140, rfl, Le.refl _ _, (show (v0_1_ : Value) = v0_1_ from rfl)⟩
 ·intro vs W lW hN
  obtain ⟨W145, hW145⟩ : ∃ X, X = W := ⟨W, rfl⟩
  subst hW145
  obtain ⟨pv6, e6_⟩ : ∃ v, vs 6 = v := ⟨_, rfl⟩
  obtain ⟨vs, rfl⟩ := up_eq e6_
  have o150 : Ow (α := List (Sh Vm.Commit)) W145 5 [0] [pv6] q41 := (hN 6 (anyb rfl))
  have e8_ : vs 8 = v0_1_ := (hN 8 (anyb rfl))
  obtain ⟨vs, rfl⟩ := up_eq e8_
  refine Tr.mono (Run.tr (R.bd (zs := [.slice none 0 0, .slice none 0 0]) (cs := [pv6, v0_1_]) [(0, pv6), (1, v0_1_)] rfl rfl rfl (bp_cons o150.oc rfl (bp_cons h0_1.oc rfl bp_nil)))) ?_
  rintro _ _ ⟨hu, rfl⟩
  obtain rfl := hu.symm
  exact ⟨W145, rfl, Le.refl _ _, (show (.agg [pv6, v0_1_].toArray : Value) = .agg [pv6, v0_1_].toArray from rfl)⟩
 ·intro vs W lW hN
  obtain ⟨W151, hW151⟩ : ∃ X, X = W := ⟨W, rfl⟩
  subst hW151
  refine Tr.mono (T.alloc 7 (cs := [.slice none 0 0, .slice none 0 0]) rfl) ?_
  rintro _ _ ⟨g156, W156, rfl, rfl, l156, b156⟩
  exact ⟨W156, rfl, l156, (show (ptr (bx g156) : Value) = ptr (bx g156) ∧ Bx W156 7 g156 [.slice none 0 0, .slice none 0 0] from ⟨rfl, b156⟩)⟩
 ·intro vs W lW hN
  obtain ⟨W161, hW161⟩ : ∃ X, X = W := ⟨W, rfl⟩
  subst hW161
  obtain ⟨pv6, e6_⟩ : ∃ v, vs 6 = v := ⟨_, rfl⟩
  obtain ⟨vs, rfl⟩ := up_eq e6_
  have o166 : Ow (α := List (Sh Vm.Commit)) W161 5 [0] [pv6] q41 := (hN 6 (anyb rfl))
  have e9_ : vs 9 = .agg [pv6, v0_1_].toArray := (hN 9 (anyb rfl))
  obtain ⟨vs, rfl⟩ := up_eq e9_
  obtain ⟨pg10, e10_⟩ : ∃ pg10, vs 10 = ptr (bx pg10) := ⟨_, ((hN 10 (anyb rfl))).1⟩
  obtain ⟨vs, rfl⟩ := up_eq e10_
  have o167 : Bx W161 7 pg10 [.slice none 0 0, .slice none 0 0] := (hN 10 (anyb rfl)).2
  refine Tr.mono (T.sta (vs := [pv6, v0_1_]) o167 rfl rfl (oc_cons o166.oc (oc_cons h0_1.oc oc_nil)) rfl rfl) ?_
  rintro _ _ ⟨W168, rfl, l168, b168⟩
  exact ⟨W168, rfl, l168, (show (ptr (bx pg10)) = ptr (bx pg10) ∧ Bx W168 7 pg10 [pv6, v0_1_] from ⟨rfl, b168⟩)⟩
 ·intro vs W lW hN
  obtain ⟨W174, hW174⟩ : ∃ X, X = W := ⟨W, rfl⟩
  subst hW174
  have a175 := a64.t lW rfl
  obtain ⟨l174, hl174⟩ : ∃ x, x = lW := ⟨lW, rfl⟩
  have e1_ : vs 1 = ptr ((bx g1).add 0) := (hN 1 (anyb rfl))
  obtain ⟨vs, rfl⟩ := up_eq e1_
  have e2_ : vs 2 = v0_0_ := (hN 2 (anyb rfl))
  obtain ⟨vs, rfl⟩ := up_eq e2_
  have e4_ : vs 4 = .agg [v2_0_, vS x2.Who, v2_2_].toArray := (hN 4 (anyb rfl))
  obtain ⟨vs, rfl⟩ := up_eq e4_
  obtain ⟨pg5, e5_⟩ : ∃ pg5, vs 5 = .slice (some (bx pg5)) 1 1 := ⟨_, ((hN 5 (anyb rfl))).1⟩
  obtain ⟨vs, rfl⟩ := up_eq e5_
  have o179 : Bx W174 6 pg5 [v2_0_, vS x2.Who, v2_2_] := (hN 5 (anyb rfl)).2
  obtain ⟨pv6, e6_⟩ : ∃ v, vs 6 = v := ⟨_, rfl⟩
  obtain ⟨vs, rfl⟩ := up_eq e6_
  have o180 : Ow (α := List (Sh Vm.Commit)) W174 5 [0] [pv6] q41 := (hN 6 (anyb rfl))
  have e7_ : vs 7 = ptr ((bx g1).add 1) := (hN 7 (anyb rfl))
  obtain ⟨vs, rfl⟩ := up_eq e7_
  have e8_ : vs 8 = v0_1_ := (hN 8 (anyb rfl))
  obtain ⟨vs, rfl⟩ := up_eq e8_
  have e9_ : vs 9 = .agg [pv6, v0_1_].toArray := (hN 9 (anyb rfl))
  obtain ⟨vs, rfl⟩ := up_eq e9_
  obtain ⟨pg10, e10_⟩ : ∃ pg10, vs 10 = ptr (bx pg10) := ⟨_, (hN 11 (anyb rfl)).1⟩
  obtain ⟨vs, rfl⟩ := up_eq e10_
  have o181 : Bx W174 7 pg10 [pv6, v0_1_] := (hN 11 (anyb rfl)).2
  refine sr (Lw.r rfl (R.lda (cs := [pv6, v0_1_]) o181.cells rfl rfl) (ms rfl (fl (b65.up lW rfl) rfl (Lw.ln x0.Commits (h0_0.ul a175) rfl ?_))))
  have s183 : Rd (α := List Vm.Commit) W174 [5, 0] [pv6] q41 := Ow.rdSh o180
  refine cr hm (fun _ => p64 (K := [0, 5]) (x0 := (Vm.Repo.mk q41 x0.Heads)) (Repo.rd (K := [0, 5]) q41 x0.Heads (s183.sub (M := [0, 5]) rfl) ((h0_1.ul a175).sub (M := [0, 5]) rfl))) ?_
  rintro z185 _ W187 hm l187 ⟨v0_0_187, v0_1_187, rfl, f187_0, f187_1⟩
  have s188 := f187_0.sub (M := [0, 5]) rfl
  have s189 := f187_1.sub (M := [0, 5]) rfl
  have a190 := a175.n l187
  refine sta (((b6.up l63).up lW rfl).up l187) (oc_cons s188.oc (oc_cons s189.oc oc_nil)) fun W197 l197 b197 => ?_
  have a198 := a190.t l197
  refine nl ?_
  have s204 := s188.up (l197.sub (M := [4]) rfl) rfl
  have s205 := s189.up (l197.sub (M := [4]) rfl) rfl
  obtain ⟨W206, ew206, l206, dj206⟩ := dyeE _ 5
  have s207 : Rd W206 [0] [v0_0_187] z185.Commits := by rw [dj206]; exact (s204.dye 5).sub (M := [0]) rfl
  have s208 : Rd W206 [0] [v0_1_187] z185.Heads := by rw [dj206]; exact (s205.dye 5).sub (M := [0]) rfl
  have s209 : Rd (α := List Vm.Commit) W206 [0] [pv6] q41 := by rw [dj206]; exact (((o180.up l187).up l197).rd.dye 5).sub (M := [0]) rfl
  have a210 := a198.t l206
  cases hm
  rw [← ew206]
  exact Cw.ret (retA1 rfl (b197.up l206) (Res.mk a210 ⟨v0_0_187, v0_1_187, rfl, s207, s208⟩))

theorem p45 {x0 v0_0_ v0_1_ x1 x2 v2_0_ v2_2_ r} (h0 : Rd W K [v0_0_, v0_1_] x0) (h2 : Rd W K [v2_0_, vS x2.Who, v2_2_] x2) (hm : Vm.spec_l7Add x0 x1 x2 = some r) : Q1 45 [.agg [v0_0_, v0_1_].toArray, vS x1, .agg [v2_0_, vS x2.Who, v2_2_].toArray] W [] fun W' v => ∃ u0_0 u0_1, v = .agg [u0_0, u0_1].toArray ∧ Rd W' (0 :: K) [u0_0] r.Commits ∧ Rd W' (0 :: K) [u0_1] r.Heads :=
 (c45 (h0.view _) (h2.view _) hm).ad (fk 0) fun _ _ ⟨u0_0, u0_1, e, f0, f1⟩ => ⟨u0_0, u0_1, e, f0.back rfl, f1.back rfl⟩

end Go.Sx
