/- Walks: each function answers as its model, printed by a program of ours. Conditions: the arguments read as they are given. -/
import Derived.Test.YtkfeiopifiejgaaDoorXTs
import Derived.Test.YtkfeiopifiejgaaDoorXMd
import Derived.Test.YtkfeiopifiejgaaDoorXW0
import Derived.Test.YtkfeiopifiejgaaDoorXW2
import Derived.Test.YtkfeiopifiejgaaDoorXW3
namespace Go.Sx
open Go Go.Proofs Go.Vm Rp
set_option linter.unusedVariables false
set_option linter.unusedSimpArgs false

variable {W W0 : CW} {K : List Nat}
theorem c27 {x0 v0_ x1 r} (h0 : Ow W0 2 [] [v0_] x0) (hm : Vm.laws_markCommitS x0 x1 = some r) : Q0 27 [v0_, vI x1] W0 fun Wf v => v = vI r.1 ∧ Ow Wf 2 [] [v0_] r.2 := by
 unfold Vm.laws_markCommitS at hm
 refine CallR.of Tryd.func27 rfl rfl rfl rfl (sr (Ni rfl (ssr (Ni rfl (Cw.block ?_)))))
 obtain ⟨K6, hK6, hm⟩ := jn_e hm
 refine Cw.loop 6 33 [1, 5] (fun m l w => ∃ y1 y2 y3 W5, CW.w W5 = w ∧ Le [2, 3, 4] W0 W5 ∧ l = [vI y1, vI y2] ∧ Ow W5 2 [] [v0_] y3 ∧ Vm.laws_markCommitS_l1 K6 m y1 y2 y3 = some r) _ ⟨x1, 0, x0, W0, rfl, Le.refl _ _, rfl, h0, hm⟩ ?_
 rintro (_ | m7) _ _ σ ⟨y1, y2, y3, W5, rfl, l5, rfl, o4, hm⟩
 ·cases hm
 unfold Vm.laws_markCommitS_l1 at hm
 have a8 := l5.s
 refine ssr (mi rfl (mv v0_ rfl (Lw.ln y3 o4.rd rfl (Lw.lt rfl (nl (cn hm (fun hm => ?_) fun hm => ?_))))))
 ·refine sk (Cw.seq (Cw.block (sr (mv v0_ rfl (mi rfl ?_)))))
  obtain ⟨u10, e11, hm⟩ := ob hm
  refine Lw.r rfl (R.ix (α := Commit) o4.rd e11 rfl rfl rfl) (Lw.fa rfl ?_)
  obtain ⟨v12, c13, r14⟩ := (Commit.at0 (o4.rd.at_ e11)).cell rfl
  refine Lw.r rfl (R.ld rfl rfl c13) (mi rfl ?_)
  obtain ⟨W15, ew15, l15, o15, gb15⟩ := Ow.lend (α := Commit) (β := List Int) (j := 3) (jf := 0) o4 e11 c13 rfl
  rw [← ew15]
  refine cr hm (fun _ => p26 (K := [0]) (c0 := 3) o15 rfl) ?_
  rintro z17 _ W19 hm l19 ⟨rfl, f19_0⟩
  obtain ⟨W22, ew22, l22, q22, eq22, o22⟩ := gb15 _ _ l19 f19_0
  obtain ⟨q22_, eqm22, hm⟩ := ob hm
  obtain rfl : q22_ = q22 := Option.some.inj (eqm22.symm.trans eq22)
  rw [← ew22]
  refine Ni rfl (sr (mv v0_ rfl (mi rfl (mi rfl (ca hm (fun _ => p57) fun z24 W26 hm l26 => ?_)))))
  obtain ⟨u29, e30, hm⟩ := ob hm
  refine Lw.r rfl (R.ix (α := Commit) (o22.up l26).rd e30 rfl rfl rfl) (Lw.fa rfl ?_)
  obtain ⟨q32, e33, hm⟩ := ob hm
  refine Lw.u (T.stH (α := Commit) (β := Str) (J := []) (Ow.hole (α := Commit) (β := Str) (jf := 1) (o22.up l26) e30) (OwS.atm (K := []) (rdS _)) e33 rfl rfl rfl rfl) ?_
  rintro _ _ ⟨W31, rfl, l31, o31⟩
  refine nl (sr (mi rfl (Lw.add rfl (Ni rfl (rg (mv v0_ rfl (mi rfl ?_)))))))
  obtain ⟨u35, e36, hm⟩ := ob hm
  refine Lw.r rfl (R.ix (α := Commit) o31.rd e36 rfl rfl rfl) (Lw.fa rfl ?_)
  obtain ⟨v37, c38, r39⟩ := (Commit.at2 (o31.rd.at_ e36)).cell rfl
  refine Lw.r rfl (R.ld rfl rfl c38) (mi rfl ?_)
  obtain ⟨W40, ew40, l40, o40, gb40⟩ := Ow.lend (α := Commit) (β := List File) (j := 4) (jf := 2) o31 e36 c38 rfl
  rw [← ew40]
  refine cr hm (fun _ => p17 (K := [0]) (c0 := 4) o40 rfl) ?_
  rintro z42 _ W44 hm l44 ⟨rfl, f44_0⟩
  obtain ⟨W47, ew47, l47, q47, eq47, o47⟩ := gb40 _ _ l44 f44_0
  obtain ⟨q47_, eqm47, hm⟩ := ob hm
  obtain rfl : q47_ = q47 := Option.some.inj (eqm47.symm.trans eq47)
  rw [← ew47]
  exact Ni rfl (rg (mi rfl (Lw.add rfl (Ni rfl ((agm) ⟨z42.1, w64 (y2 + 1), q47_, W47, rfl, ((((((((l5.j l15).j l19).j l22).j l26).j l31).j l40).j l44).j l47).w, rfl, o47, hm⟩)))))
 ·refine Cw.exit ?_
  rw [hK6] at hm
  refine sr (mi rfl (Ni rfl ?_))
  cases hm
  exact Cw.ret (ret1 rfl (Res.mk a8 ⟨rfl, o4⟩))

theorem p27 {x0 v0_ x1 c0 r} (h0 : Ow W c0 [] [v0_] x0) (hJ : okJ K [c0] = true) (hm : Vm.laws_markCommitS x0 x1 = some r) : Q1 27 [v0_, vI x1] W [c0] fun W' v => v = vI r.1 ∧ Ow W' c0 [] [v0_] r.2 :=
 CallR.adJ (J := [c0]) (fun c => bif Nat.beq c 0 then 0 else bif Nat.beq c 2 then c0 else 0) (c27 (h0.viewJ 0 hJ) hm) fun _ _ ⟨e, f0⟩ => ⟨e, Ow.backJ 0 f0 rfl⟩

theorem c56 {x0 v0_ x1 r} (h0 : Ow W0 2 [] [v0_] x0) (hm : Vm.laws_markHeadS x0 x1 = some r) : Q0 56 [v0_, vI x1] W0 fun Wf v => v = vI r.1 ∧ Ow Wf 2 [] [v0_] r.2 := by
 unfold Vm.laws_markHeadS at hm
 refine CallR.of Tryd.func56 rfl rfl rfl rfl (sr (Ni rfl (ssr (Ni rfl (Cw.block ?_)))))
 obtain ⟨K6, hK6, hm⟩ := jn_e hm
 refine Cw.loop 6 26 [1, 5] (fun m l w => ∃ y1 y2 y3 W5, CW.w W5 = w ∧ Le [2] W0 W5 ∧ l = [vI y1, vI y2] ∧ Ow W5 2 [] [v0_] y3 ∧ Vm.laws_markHeadS_l1 K6 m y1 y2 y3 = some r) _ ⟨x1, 0, x0, W0, rfl, Le.refl _ _, rfl, h0, hm⟩ ?_
 rintro (_ | m7) _ _ σ ⟨y1, y2, y3, W5, rfl, l5, rfl, o4, hm⟩
 ·cases hm
 unfold Vm.laws_markHeadS_l1 at hm
 have a8 := l5.s
 refine ssr (mi rfl (mv v0_ rfl (Lw.ln y3 o4.rd rfl (Lw.lt rfl (nl (cn hm (fun hm => ?_) fun hm => ?_))))))
 ·refine sk (Cw.seq (Cw.block (sr (mv v0_ rfl (mi rfl (mi rfl (ca hm (fun _ => p57) fun z10 W12 hm l12 => ?_)))))))
  obtain ⟨u15, e16, hm⟩ := ob hm
  refine Lw.r rfl (R.ix (α := Head) (o4.up l12).rd e16 rfl rfl rfl) (Lw.fa rfl ?_)
  obtain ⟨q18, e19, hm⟩ := ob hm
  refine Lw.u (T.stH (α := Head) (β := Str) (J := []) (Ow.hole (α := Head) (β := Str) (jf := 0) (o4.up l12) e16) (OwS.atm (K := []) (rdS _)) e19 rfl rfl rfl rfl) ?_
  rintro _ _ ⟨W17, rfl, l17, o17⟩
  refine nl (sr (mi rfl (Lw.add rfl (Ni rfl (sr (mv v0_ rfl (mi rfl (mi rfl ?_))))))))
  obtain ⟨u21, e22, hm⟩ := ob hm
  refine Lw.r rfl (R.ix (α := Head) o17.rd e22 rfl rfl rfl) (Lw.fa rfl ?_)
  obtain ⟨q24, e25, hm⟩ := ob hm
  refine Lw.u (T.stH (α := Head) (β := Int) (J := []) (Ow.hole (α := Head) (β := Int) (jf := 1) o17 e22) (OwS.atm (K := []) (rdI _)) e25 rfl rfl rfl rfl) ?_
  rintro _ _ ⟨W23, rfl, l23, o23⟩
  exact nl (rg (mi rfl (Lw.add rfl (Ni rfl (rg (mi rfl (Lw.add rfl (Ni rfl ((agm) ⟨w64 ((w64 (y1 + 1)) + 1), w64 (y2 + 1), q24, W23, rfl, (((l5.j l12).j l17).j l23).w, rfl, o23, hm⟩)))))))))
 ·refine Cw.exit ?_
  rw [hK6] at hm
  refine sr (mi rfl (Ni rfl ?_))
  cases hm
  exact Cw.ret (ret1 rfl (Res.mk a8 ⟨rfl, o4⟩))

theorem p56 {x0 v0_ x1 c0 r} (h0 : Ow W c0 [] [v0_] x0) (hJ : okJ K [c0] = true) (hm : Vm.laws_markHeadS x0 x1 = some r) : Q1 56 [v0_, vI x1] W [c0] fun W' v => v = vI r.1 ∧ Ow W' c0 [] [v0_] r.2 :=
 CallR.adJ (J := [c0]) (fun c => bif Nat.beq c 0 then 0 else bif Nat.beq c 2 then c0 else 0) (c56 (h0.viewJ 0 hJ) hm) fun _ _ ⟨e, f0⟩ => ⟨e, Ow.backJ 0 f0 rfl⟩

theorem c16 {x0 v0_0_ v0_1_ x1 r} (h0_0 : Ow W0 2 [] [v0_0_] x0.Commits) (h0_1 : Ow W0 3 [] [v0_1_] x0.Heads) (hm : Vm.laws_markRepo x0 x1 = some r) : Q0 16 [.agg [v0_0_, v0_1_].toArray, vI x1] W0 fun Wf v => v = vI r.1 ∧ Ow Wf 2 [] [v0_0_] r.2.Commits ∧ Ow Wf 3 [] [v0_1_] r.2.Heads := by
 unfold Vm.laws_markRepo at hm
 refine CallR.of Tryd.func16 rfl rfl rfl rfl (sr (bo 4 rfl fun g1 W1 l1 b1 => ?_))
 have a2 := l1.o
 refine Ni rfl (sr (fl b1 rfl (mi rfl (cr hm (fun _ => p27 (K := [0]) (c0 := 2) (h0_0.up l1) rfl) ?_))))
 rintro z5 _ W7 hm l7 ⟨rfl, f7_0⟩
 have a8 := a2.t l7
 refine Ni rfl (sr (fl (b1.up l7) rfl (mi rfl (cr hm (fun _ => p56 (K := [0]) (c0 := 3) ((h0_1.up l1).up l7) rfl) ?_))))
 rintro z11 _ W13 hm l13 ⟨rfl, f13_0⟩
 have a14 := a8.t l13
 refine Ni rfl (sr (mi rfl (Ni rfl ?_)))
 cases hm
 exact Cw.ret (ret1 rfl (Res.mk a14 ⟨rfl, (f7_0.up l13), f13_0⟩))

theorem p16 {x0 v0_0_ v0_1_ x1 c0 c1 r} (h0_0 : Ow W c0 [] [v0_0_] x0.Commits) (h0_1 : Ow W c1 [] [v0_1_] x0.Heads) (hJ : okJ K [c0, c1] = true) (hm : Vm.laws_markRepo x0 x1 = some r) : Q1 16 [.agg [v0_0_, v0_1_].toArray, vI x1] W [c0, c1] fun W' v => v = vI r.1 ∧ Ow W' c0 [] [v0_0_] r.2.Commits ∧ Ow W' c1 [] [v0_1_] r.2.Heads :=
 CallR.adJ (J := [c0, c1]) (fun c => bif Nat.beq c 0 then 0 else bif Nat.beq c 2 then c0 else bif Nat.beq c 3 then c1 else 0) (c16 (h0_0.viewJ 0 hJ) (h0_1.viewJ 1 hJ) hm) fun _ _ ⟨e, f0, f1⟩ => ⟨e, Ow.backJ 0 f0 rfl, Ow.backJ 1 f1 rfl⟩

theorem c105 {x0 v0_ x1 r} (h0 : Rd W0 [0] [v0_] x0) (hm : Vm.laws_heldIntS x0 x1 = some r) : Q0 105 [v0_, vI x1] W0 fun Wf v => v = vI r := by
 unfold Vm.laws_heldIntS at hm
 refine CallR.of Tryd.func105 rfl rfl rfl rfl (sr (Ni rfl (ssr (Ni rfl (Cw.block ?_)))))
 obtain ⟨K5, hK5, hm⟩ := jn_e hm
 refine Cw.loop 6 19 [1, 4, 5] (fun m l w => ∃ y1 y2 y3 W4, CW.w W4 = w ∧ Le [] W0 W4 ∧ l = [vI y1, vI y2, vI y3] ∧ Vm.laws_heldIntS_l1 x0 K5 m y1 y2 y3 = some r) _ ⟨x1, 0, 0, W0, rfl, Le.refl _ _, rfl, hm⟩ ?_
 rintro (_ | m6) _ _ σ ⟨y1, y2, y3, W4, rfl, l4, rfl, hm⟩
 ·cases hm
 unfold Vm.laws_heldIntS_l1 at hm
 have a7 := l4.o
 refine ssr ?_
 have s8 := h0.ul a7
 refine mi rfl (mv v0_ rfl (Lw.ln x0 s8 rfl (Lw.lt rfl (nl (cn hm (fun hm => ?_) fun hm => ?_)))))
 ·refine sk (Cw.seq (Cw.block (ssr (mv v0_ rfl (mi rfl ?_)))))
  obtain ⟨u10, e11, hm⟩ := ob hm
  refine Lw.r rfl (R.ix (α := Int) s8 e11 rfl rfl rfl) (Lw.r rfl (R.ld rfl rfl (s8.at_ e11).int) (mi rfl (Lw.ne rfl (nl (cn hm (fun hm => ?_) fun hm => ?_)))))
  ·exact sr (Ni rfl (.ret (rt hm a7)))
  ·exact sk (rg (mi rfl (Lw.add rfl (Ni rfl (rg (mi rfl (Lw.add rfl (Ni rfl ((agm) ⟨w64 (y1 + 1), y2, w64 (y3 + 1), W4, rfl, l4, rfl, hm⟩)))))))))
 ·refine Cw.exit ?_
  rw [hK5] at hm
  exact sr (mi rfl (Ni rfl (.ret (rt hm a7))))

theorem p105 {x0 v0_ x1 r} (h0 : Rd W K [v0_] x0) (hm : Vm.laws_heldIntS x0 x1 = some r) : Q1 105 [v0_, vI x1] W [] fun W' v => v = vI r :=
 (c105 (h0.view _) hm).ad (fk 0) fun _ _ e => e

theorem c84 {x0 v0_ x1 r} (h0 : Rd W0 [0] [v0_] x0) (hm : Vm.laws_heldStringS x0 x1 = some r) : Q0 84 [v0_, vI x1] W0 fun Wf v => v = vI r := by
 unfold Vm.laws_heldStringS at hm
 refine CallR.of Tryd.func84 rfl rfl rfl rfl (sr (Ni rfl (ssr (Ni rfl (Cw.block ?_)))))
 obtain ⟨K5, hK5, hm⟩ := jn_e hm
 refine Cw.loop 6 20 [1, 4, 5] (fun m l w => ∃ y1 y2 y3 W4, CW.w W4 = w ∧ Le [] W0 W4 ∧ l = [vI y1, vI y2, vI y3] ∧ Vm.laws_heldStringS_l1 x0 K5 m y1 y2 y3 = some r) _ ⟨x1, 0, 0, W0, rfl, Le.refl _ _, rfl, hm⟩ ?_
 rintro (_ | m6) _ _ σ ⟨y1, y2, y3, W4, rfl, l4, rfl, hm⟩
 ·cases hm
 unfold Vm.laws_heldStringS_l1 at hm
 have a7 := l4.o
 refine ssr (mi rfl (mv v0_ rfl (Lw.ln x0 (h0.ul a7) rfl (Lw.lt rfl (nl (cn hm (fun hm => ?_) fun hm => ?_))))))
 ·refine sk (Cw.seq (Cw.block (Cw.seq (Cw.seq (Cw.draw [] [(0, 0), (1, 0), (2, 0), (3, 1), (4, 0), (5, 2), (6, 0)] mixed (by kernel_rfl) fun W10 l10 => ?_)))))
  have a11 := a7.n l10
  refine Dv v0_ rfl (Di rfl ?_)
  obtain ⟨u12, e13, hm⟩ := ob hm
  refine Mw.p rfl rfl (fun _ => R.ix (α := Str) (h0.ul a11) e13 rfl rfl rfl) (Mw.q rfl rfl (fun _ c => R.ld rfl rfl (cl_cell ((h0.ul a11).at_ e13).1 rfl ((h0.ul a11).at_ e13).str c)) (Di rfl ?_))
  obtain ⟨z15, e16, hm⟩ := ob hm
  refine Mw.t rfl rfl (T.call rfl (p57   e16)) ?_
  rintro _ _ ⟨W17, rfl, l17, rfl⟩
  have a18 := a11.n l17
  refine m0 l17 fun d17 => Mw.p rfl rfl (fun _ => R.sne rfl rfl) (Mw.nil (cn hm (fun hm => ?_) fun hm => ?_))
  ·exact sr (Ni rfl (.ret (rt hm a18)))
  ·exact sk (rg (mi rfl (Lw.add rfl (Ni rfl (rg (mi rfl (Lw.add rfl (Ni rfl ((agm) ⟨w64 (y1 + 1), y2, w64 (y3 + 1), W17, rfl, ((l4.j l10).j l17).w, rfl, hm⟩)))))))))
 ·refine Cw.exit ?_
  rw [hK5] at hm
  exact sr (mi rfl (Ni rfl (.ret (rt hm a7))))

theorem p84 {x0 v0_ x1 r} (h0 : Rd W K [v0_] x0) (hm : Vm.laws_heldStringS x0 x1 = some r) : Q1 84 [v0_, vI x1] W [] fun W' v => v = vI r :=
 (c84 (h0.view _) hm).ad (fk 0) fun _ _ e => e

theorem c106 {x0 v0_ x1 r} (h0 : Rd W0 [0] [v0_] x0) (hm : Vm.laws_heldFileS x0 x1 = some r) : Q0 106 [v0_, vI x1] W0 fun Wf v => v = vI r := by
 unfold Vm.laws_heldFileS at hm
 refine CallR.of Tryd.func106 rfl rfl rfl rfl (sr (Ni rfl (ssr (Ni rfl (Cw.block ?_)))))
 obtain ⟨K5, hK5, hm⟩ := jn_e hm
 refine Cw.loop 6 30 [1, 4, 5] (fun m l w => ∃ y1 y2 y3 W4, CW.w W4 = w ∧ Le [] W0 W4 ∧ l = [vI y1, vI y2, vI y3] ∧ Vm.laws_heldFileS_l1 x0 K5 m y1 y2 y3 = some r) _ ⟨x1, 0, 0, W0, rfl, Le.refl _ _, rfl, hm⟩ ?_
 rintro (_ | m6) _ _ σ ⟨y1, y2, y3, W4, rfl, l4, rfl, hm⟩
 ·cases hm
 unfold Vm.laws_heldFileS_l1 at hm
 have a7 := l4.o
 refine ssr (mi rfl (mv v0_ rfl (Lw.ln x0 (h0.ul a7) rfl (Lw.lt rfl (nl (cn hm (fun hm => ?_) fun hm => ?_))))))
 ·refine sk (Cw.seq (Cw.block (Cw.seq (Cw.seq (Cw.draw [] [(0, 0), (1, 0), (2, 0), (3, 0), (4, 1), (5, 0), (6, 2), (7, 0)] mixed (by kernel_rfl) fun W10 l10 => ?_)))))
  have a11 := a7.n l10
  refine Dv v0_ rfl (Di rfl ?_)
  obtain ⟨u12, e13, hm⟩ := ob hm
  refine Mw.p rfl rfl (fun _ => R.ix (α := File) (h0.ul a11) e13 rfl rfl rfl) (Df rfl (Mw.q rfl rfl (fun _ c => R.ld rfl rfl (cl_cell (File.at0 ((h0.ul a11).at_ e13)).1 rfl (File.at0 ((h0.ul a11).at_ e13)).str c)) (Di rfl ?_)))
  obtain ⟨z15, e16, hm⟩ := ob hm
  refine Mw.t rfl rfl (T.call rfl (p57   e16)) ?_
  rintro _ _ ⟨W17, rfl, l17, rfl⟩
  have a18 := a11.n l17
  refine m0 l17 fun d17 => Mw.p rfl rfl (fun _ => R.sne rfl rfl) (Mw.nil (cn hm (fun hm => ?_) fun hm => ?_))
  ·exact sr (Ni rfl (.ret (rt hm a18)))
  ·refine sk (sr (mi rfl (Lw.add rfl (Ni rfl (sr (mv v0_ rfl (mi rfl ?_)))))))
   obtain ⟨u20, e21, hm⟩ := ob hm
   refine Lw.r rfl (R.ix (α := File) (h0.ul a18) e21 rfl rfl rfl) (Lw.fa rfl ?_)
   obtain ⟨v23, c24, r25⟩ := (File.at1 ((h0.ul a18).at_ e21)).cell rfl
   refine Lw.r rfl (R.ld rfl rfl c24) (mi rfl (ca hm (fun _ => p84 r25) fun z26 W28 hm l28 => ?_))
   have a29 := a18.n l28
   refine Ni rfl (sr (mi rfl (Lw.lt rfl (nl (cn hm (fun hm => ?_) fun hm => ?_)))))
   ·exact sr (Ni rfl (.ret (rt hm a29)))
   ·exact sk (rg (mi rfl (Lw.add rfl (Ni rfl ((agm) ⟨z26, y2, w64 (y3 + 1), W28, rfl, (((l4.j l10).j l17).j l28).w, rfl, hm⟩)))))
 ·refine Cw.exit ?_
  rw [hK5] at hm
  exact sr (mi rfl (Ni rfl (.ret (rt hm a7))))

theorem p106 {x0 v0_ x1 r} (h0 : Rd W K [v0_] x0) (hm : Vm.laws_heldFileS x0 x1 = some r) : Q1 106 [v0_, vI x1] W [] fun W' v => v = vI r :=
 (c106 (h0.view _) hm).ad (fk 0) fun _ _ e => e

theorem c59 {x0 v0_ x1 r} (h0 : Rd W0 [0] [v0_] x0) (hm : Vm.laws_heldCommitS x0 x1 = some r) : Q0 59 [v0_, vI x1] W0 fun Wf v => v = vI r := by
 unfold Vm.laws_heldCommitS at hm
 refine CallR.of Tryd.func59 rfl rfl rfl rfl (sr (Ni rfl (ssr (Ni rfl (Cw.block ?_)))))
 obtain ⟨K5, hK5, hm⟩ := jn_e hm
 refine Cw.loop 6 39 [1, 4, 5] (fun m l w => ∃ y1 y2 y3 W4, CW.w W4 = w ∧ Le [] W0 W4 ∧ l = [vI y1, vI y2, vI y3] ∧ Vm.laws_heldCommitS_l1 x0 K5 m y1 y2 y3 = some r) _ ⟨x1, 0, 0, W0, rfl, Le.refl _ _, rfl, hm⟩ ?_
 rintro (_ | m6) _ _ σ ⟨y1, y2, y3, W4, rfl, l4, rfl, hm⟩
 ·cases hm
 unfold Vm.laws_heldCommitS_l1 at hm
 have a7 := l4.o
 refine ssr ?_
 have s8 := h0.ul a7
 refine mi rfl (mv v0_ rfl (Lw.ln x0 s8 rfl (Lw.lt rfl (nl (cn hm (fun hm => ?_) fun hm => ?_)))))
 ·refine sk (Cw.seq (Cw.block (sr (mv v0_ rfl (mi rfl ?_)))))
  obtain ⟨u10, e11, hm⟩ := ob hm
  refine Lw.r rfl (R.ix (α := Commit) s8 e11 rfl rfl rfl) (Lw.fa rfl ?_)
  obtain ⟨v12, c13, r14⟩ := (Commit.at0 (s8.at_ e11)).cell rfl
  refine Lw.r rfl (R.ld rfl rfl c13) (mi rfl (ca hm (fun _ => p105 r14) fun z15 W17 hm l17 => ?_))
  have a18 := a7.n l17
  refine Ni rfl (ssr (mi rfl (Lw.lt rfl (nl (cn hm (fun hm => ?_) fun hm => ?_)))))
  ·exact sr (Ni rfl (.ret (rt hm a18)))
  ·refine sk (Cw.seq (Cw.seq (Cw.draw [] [(0, 0), (1, 0), (2, 0), (3, 0), (4, 1), (5, 0), (6, 2), (7, 0)] mixed (by kernel_rfl) fun W20 l20 => ?_)))
   have a21 := a18.n l20
   refine Dv v0_ rfl (Di rfl ?_)
   obtain ⟨u22, e23, hm⟩ := ob hm
   refine Mw.p rfl rfl (fun _ => R.ix (α := Commit) (h0.ul a21) e23 rfl rfl rfl) (Df rfl (Mw.q rfl rfl (fun _ c => R.ld rfl rfl (cl_cell (Commit.at1 ((h0.ul a21).at_ e23)).1 rfl (Commit.at1 ((h0.ul a21).at_ e23)).str c)) (Di rfl ?_)))
   obtain ⟨z25, e26, hm⟩ := ob hm
   refine Mw.t rfl rfl (T.call rfl (p57   e26)) ?_
   rintro _ _ ⟨W27, rfl, l27, rfl⟩
   have a28 := a21.n l27
   refine m0 l27 fun d27 => Mw.p rfl rfl (fun _ => R.sne rfl rfl) (Mw.nil (cn hm (fun hm => ?_) fun hm => ?_))
   ·exact sr (Ni rfl (.ret (rt hm a28)))
   ·refine sk (sr (mi rfl (Lw.add rfl (Ni rfl (sr (mv v0_ rfl (mi rfl ?_)))))))
    obtain ⟨u30, e31, hm⟩ := ob hm
    refine Lw.r rfl (R.ix (α := Commit) (h0.ul a28) e31 rfl rfl rfl) (Lw.fa rfl ?_)
    obtain ⟨v33, c34, r35⟩ := (Commit.at2 ((h0.ul a28).at_ e31)).cell rfl
    refine Lw.r rfl (R.ld rfl rfl c34) (mi rfl (ca hm (fun _ => p106 r35) fun z36 W38 hm l38 => ?_))
    have a39 := a28.n l38
    refine Ni rfl (sr (mi rfl (Lw.lt rfl (nl (cn hm (fun hm => ?_) fun hm => ?_)))))
    ·exact sr (Ni rfl (.ret (rt hm a39)))
    ·exact sk (rg (mi rfl (Lw.add rfl (Ni rfl ((agm) ⟨z36, y2, w64 (y3 + 1), W38, rfl, ((((l4.j l17).j l20).j l27).j l38).w, rfl, hm⟩)))))
 ·refine Cw.exit ?_
  rw [hK5] at hm
  exact sr (mi rfl (Ni rfl (.ret (rt hm a7))))

theorem p59 {x0 v0_ x1 r} (h0 : Rd W K [v0_] x0) (hm : Vm.laws_heldCommitS x0 x1 = some r) : Q1 59 [v0_, vI x1] W [] fun W' v => v = vI r :=
 (c59 (h0.view _) hm).ad (fk 0) fun _ _ e => e

theorem c60 {x0 v0_ x1 r} (h0 : Rd W0 [0] [v0_] x0) (hm : Vm.laws_heldHeadS x0 x1 = some r) : Q0 60 [v0_, vI x1] W0 fun Wf v => v = vI r := by
 unfold Vm.laws_heldHeadS at hm
 refine CallR.of Tryd.func60 rfl rfl rfl rfl (sr (Ni rfl (ssr (Ni rfl (Cw.block ?_)))))
 obtain ⟨K5, hK5, hm⟩ := jn_e hm
 refine Cw.loop 6 30 [1, 4, 5] (fun m l w => ∃ y1 y2 y3 W4, CW.w W4 = w ∧ Le [] W0 W4 ∧ l = [vI y1, vI y2, vI y3] ∧ Vm.laws_heldHeadS_l1 x0 K5 m y1 y2 y3 = some r) _ ⟨x1, 0, 0, W0, rfl, Le.refl _ _, rfl, hm⟩ ?_
 rintro (_ | m6) _ _ σ ⟨y1, y2, y3, W4, rfl, l4, rfl, hm⟩
 ·cases hm
 unfold Vm.laws_heldHeadS_l1 at hm
 have a7 := l4.o
 refine ssr (mi rfl (mv v0_ rfl (Lw.ln x0 (h0.ul a7) rfl (Lw.lt rfl (nl (cn hm (fun hm => ?_) fun hm => ?_))))))
 ·refine sk (Cw.seq (Cw.block (Cw.seq (Cw.seq (Cw.draw [] [(0, 0), (1, 0), (2, 0), (3, 0), (4, 1), (5, 0), (6, 2), (7, 0)] mixed (by kernel_rfl) fun W10 l10 => ?_)))))
  have a11 := a7.n l10
  refine Dv v0_ rfl (Di rfl ?_)
  obtain ⟨u12, e13, hm⟩ := ob hm
  refine Mw.p rfl rfl (fun _ => R.ix (α := Head) (h0.ul a11) e13 rfl rfl rfl) (Df rfl (Mw.q rfl rfl (fun _ c => R.ld rfl rfl (cl_cell (Head.at0 ((h0.ul a11).at_ e13)).1 rfl (Head.at0 ((h0.ul a11).at_ e13)).str c)) (Di rfl ?_)))
  obtain ⟨z15, e16, hm⟩ := ob hm
  refine Mw.t rfl rfl (T.call rfl (p57   e16)) ?_
  rintro _ _ ⟨W17, rfl, l17, rfl⟩
  have a18 := a11.n l17
  refine m0 l17 fun d17 => Mw.p rfl rfl (fun _ => R.sne rfl rfl) (Mw.nil (cn hm (fun hm => ?_) fun hm => ?_))
  ·exact sr (Ni rfl (.ret (rt hm a18)))
  ·refine sk (sr (mi rfl (Lw.add rfl (Ni rfl (ssr (mv v0_ rfl (mi rfl ?_)))))))
   obtain ⟨u20, e21, hm⟩ := ob hm
   refine Lw.r rfl (R.ix (α := Head) (h0.ul a18) e21 rfl rfl rfl) (Lw.fa rfl (Lw.r rfl (R.ld rfl rfl (Head.at1 ((h0.ul a18).at_ e21)).int) (mi rfl (Lw.ne rfl (nl (cn hm (fun hm => ?_) fun hm => ?_))))))
   ·exact sr (Ni rfl (.ret (rt hm a18)))
   ·exact sk (rg (mi rfl (Lw.add rfl (Ni rfl (rg (mi rfl (Lw.add rfl (Ni rfl ((agm) ⟨w64 ((w64 (y1 + 1)) + 1), y2, w64 (y3 + 1), W17, rfl, ((l4.j l10).j l17).w, rfl, hm⟩)))))))))
 ·refine Cw.exit ?_
  rw [hK5] at hm
  exact sr (mi rfl (Ni rfl (.ret (rt hm a7))))

theorem p60 {x0 v0_ x1 r} (h0 : Rd W K [v0_] x0) (hm : Vm.laws_heldHeadS x0 x1 = some r) : Q1 60 [v0_, vI x1] W [] fun W' v => v = vI r :=
 (c60 (h0.view _) hm).ad (fk 0) fun _ _ e => e

theorem c18 {x0 v0_0_ v0_1_ x1 r} (h0 : Rd W0 [0] [v0_0_, v0_1_] x0) (hm : Vm.laws_heldRepo x0 x1 = some r) : Q0 18 [.agg [v0_0_, v0_1_].toArray, vI x1] W0 fun Wf v => v = vI r := by
 unfold Vm.laws_heldRepo at hm
 obtain ⟨w0_0, w0_1, he0, h0_0, h0_1⟩ := Repo.split h0
 simp only [List.cons.injEq, and_true, true_and] at he0
 obtain ⟨rfl, rfl⟩ := he0
 refine CallR.of Tryd.func18 rfl rfl rfl rfl (sr (bo 2 rfl fun g1 W1 l1 b1 => ?_))
 have a2 := l1.o
 refine Ni rfl (sr (fl b1 rfl (mi rfl (ca hm (fun _ => p59 (h0_0.ul a2)) fun z4 W6 hm l6 => ?_))))
 have a7 := a2.n l6
 refine Ni rfl (ssr (mi rfl (Lw.lt rfl (nl (cn hm (fun hm => ?_) fun hm => ?_)))))
 ·exact sr (Ni rfl (.ret (rt hm a7)))
 ·refine sk (sr (fl (b1.up l6) rfl (mi rfl (ca hm (fun _ => p60 (h0_1.ul a7)) fun z11 W13 hm l13 => ?_))))
  have a14 := a7.n l13
  refine Ni rfl (ssr (mi rfl (Lw.lt rfl (nl (cn hm (fun hm => ?_) fun hm => ?_)))))
  ·exact sr (Ni rfl (.ret (rt hm a14)))
  ·exact sk (sr (mi rfl (Ni rfl (.ret (rt hm a14)))))

theorem p18 {x0 v0_0_ v0_1_ x1 r} (h0 : Rd W K [v0_0_, v0_1_] x0) (hm : Vm.laws_heldRepo x0 x1 = some r) : Q1 18 [.agg [v0_0_, v0_1_].toArray, vI x1] W [] fun W' v => v = vI r :=
 (c18 (h0.view _) hm).ad (fk 0) fun _ _ e => e

theorem c3 {x0 v0_0_ v0_1_ x1 x2 x3 v3_ r} (h0 : Rd W0 [0] [v0_0_, v0_1_] x0) (h3 : Rd W0 [0] [v3_] x3) (h99 : Gl 2 W0 [0]) (hm : Vm.laws_FnExactRepoCommit x0 x1 x2 x3 = some r) : Q0 3 [.agg [v0_0_, v0_1_].toArray, vS x1, vS x2, v3_] W0 fun Wf v => v = vB r := by
 unfold Vm.laws_FnExactRepoCommit at hm
 obtain ⟨w0_0, w0_1, he0, h0_0, h0_1⟩ := Repo.split h0
 simp only [List.cons.injEq, and_true, true_and] at he0
 obtain ⟨rfl, rfl⟩ := he0
 refine CallR.of Tryd.func3 rfl rfl rfl rfl (sr (bo 2 rfl fun g1 W1 l1 b1 => ?_))
 have a2 := l1.o
 refine Nb rfl (ssr (ms rfl (Lw.r rfl (R.lenS rfl) (Lw.gt rfl (nl (cn hm (fun hm => ?_) fun hm => ?_))))))
 ·exact sr (Nb rfl (.ret (rt hm a2)))
 ·refine sk (ssr (ms rfl (Lw.r rfl (R.lenS rfl) (Lw.gt rfl (nl (cn hm (fun hm => ?_) fun hm => ?_))))))
  ·exact sr (Nb rfl (.ret (rt hm a2)))
  ·refine sk (sr (Ni rfl (sr (la b1 (mi rfl (ca hm (fun _ => p8 (Repo.rd (K := [0]) x0.Commits x0.Heads (h0_0.ul a2) (h0_1.ul a2))) fun z7 W9 hm l9 => ?_))))))
   have a10 := a2.n l9
   refine Ni rfl (ssr (mi rfl (Lw.lt rfl (nl (cn hm (fun hm => ?_) fun hm => ?_)))))
   ·exact sr (Nb rfl (.ret (rt hm a10)))
   ·refine sk (sr (mv v3_ rfl (mi rfl (ca hm (fun _ => p9 (h3.ul a10)) fun z14 W16 hm l16 => ?_))))
    have a17 := a10.n l16
    have b18 := (b1.up l9).up l16
    refine Ni rfl (ssr (mi rfl (Lw.lt rfl (nl (cn hm (fun hm => ?_) fun hm => ?_)))))
    ·exact sr (Nb rfl (.ret (rt hm a17)))
    ·refine sk (sr (la b18 (cr hm (fun _ => p11 (k0 := 3) (k1 := 4) (Repo.rd (K := [0]) x0.Commits x0.Heads (h0_0.ul a17) (h0_1.ul a17))) ?_)))
     rintro z22 _ W24 hm l24 ⟨v0_0_24, v0_1_24, rfl, f24_0, f24_1⟩
     have a25 := a17.n l24
     refine ms rfl (ms rfl (mv v3_ rfl (cr hm (fun _ => p12 (k0 := 5) (h3.ul a25)) ?_)))
     rintro z28 v0_30 W30 hm l30 ⟨_, rfl, f30_0⟩
     have a31 := a25.n l30
     refine cr hm (fun _ => p10 (K := [3, 4, 5]) (x0 := (Vm.Repo.mk z22.Commits z22.Heads)) ((Repo.rd (K := [3, 4]) z22.Commits z22.Heads ((f24_0.up l30).rd.sub (M := [3, 4]) rfl) ((f24_1.up l30).rd.sub (M := [3, 4]) rfl)).sub (M := [3, 4, 5]) rfl) (f30_0.rd.sub (M := [3, 4, 5]) rfl)) ?_
     rintro z35 _ W37 hm l37 ⟨v0_0_37, v0_1_37, rfl, f37_0, f37_1⟩
     have s38 := f37_0.sub (M := [0, 3, 4, 5]) rfl
     have s39 := f37_1.sub (M := [0, 3, 4, 5]) rfl
     have a40 := a31.n l37
     refine mv (.tuple [.agg [v0_0_37, v0_1_37].toArray, vB z35.2].toArray) rfl (Lw.r rfl (R.ext (vs := [.agg [v0_0_37, v0_1_37].toArray, vB z35.2]) (v := .agg [v0_0_37, v0_1_37].toArray) rfl rfl) (Lw.r rfl (R.ext (vs := [.agg [v0_0_37, v0_1_37].toArray, vB z35.2]) (v := vB z35.2) rfl rfl) (al 6 [.slice none 0 0, .slice none 0 0] fun g45 W45 l45 b45 => ?_)))
     have a46 := a40.n l45
     refine sta b45 (oc_cons s38.oc (oc_cons s39.oc oc_nil)) fun W51 l51 b51 => ?_
     have a52 := a46.t l51
     have b56 := ((((b18.up l24).up l30).up l37).up l45).up l51
     refine Nb rfl (sr (la b56 (cr hm (fun _ => p11 (k0 := 7) (k1 := 8) (Repo.rd (K := [0]) x0.Commits x0.Heads (h0_0.ul a52) (h0_1.ul a52))) ?_)))
     rintro z59 _ W61 hm l61 ⟨v0_0_61, v0_1_61, rfl, f61_0, f61_1⟩
     have a62 := a52.n l61
     refine al 9 [.slice none 0 0, .slice none 0 0] fun g68 W68 l68 b68 => ?_
     have a69 := a62.n l68
     refine sta b68 (oc_cons (f61_0.up l68).oc (oc_cons (f61_1.up l68).oc oc_nil)) fun W77 l77 b77 => ?_
     have a78 := a69.t l77
     refine nl (sr (mv v3_ rfl (cr hm (fun _ => p12 (k0 := 10) (h3.ul a78)) ?_)))
     rintro z87 v0_89 W89 hm l89 ⟨_, rfl, f89_0⟩
     have a90 := a78.n l89
     have o94 := ((f61_0.up l68).up l77).up l89
     have o95 := ((f61_1.up l68).up l77).up l89
     refine Nv v0_89 rfl (sr (la (b77.up l89) (ms rfl (ms rfl (mv v0_89 rfl (cr hm (fun _ => p13 (K := [0, 7, 8, 10]) (k0 := 11) (k1 := 12) (x0 := (Vm.Repo.mk z59.Commits z59.Heads)) ((Repo.rd (K := [7, 8]) z59.Commits z59.Heads (o94.rd.sub (M := [7, 8]) rfl) (o95.rd.sub (M := [7, 8]) rfl)).sub (M := [0, 7, 8, 10]) rfl) (f89_0.rd.sub (M := [0, 7, 8, 10]) rfl) ((h99.ul a90).sub (M := [0, 7, 8, 10]) rfl)) ?_))))))
     rintro z100 _ W102 hm l102 ⟨v0_0_102, v0_1_102, rfl, f102_0, f102_1⟩
     have a103 := a90.n l102
     refine mv (.tuple [.agg [v0_0_102, v0_1_102].toArray, vB z100.2].toArray) rfl (Lw.r rfl (R.ext (vs := [.agg [v0_0_102, v0_1_102].toArray, vB z100.2]) (v := .agg [v0_0_102, v0_1_102].toArray) rfl rfl) (Lw.r rfl (R.ext (vs := [.agg [v0_0_102, v0_1_102].toArray, vB z100.2]) (v := vB z100.2) rfl rfl) (al 13 [.slice none 0 0, .slice none 0 0] fun g113 W113 l113 b113 => ?_)))
     have a114 := a103.n l113
     refine sta b113 (oc_cons (f102_0.up l113).oc (oc_cons (f102_1.up l113).oc oc_nil)) fun W126 l126 b126 => ?_
     have a127 := a114.t l126
     have o134 := (f102_0.up l113).up l126
     have o135 := (f102_1.up l113).up l126
     have b137 := ((((((b51.up l61).up l68).up l77).up l89).up l102).up l113).up l126
     refine Nb rfl (Cw.seq ?_)
     obtain ⟨K141, hK141, hm⟩ := jn_e hm
     refine Cw.join 59 67 [67] (fun l w => ∃ y139 W140, CW.w W140 = w ∧ Le [] W126 W140 ∧ l = [vB y139] ∧ K141 y139 = some r) ?_ ?_
     ·rintro _ _ σ ⟨y139, W140, rfl, l140, rfl, hm⟩
      rw [hK141] at hm
      have a142 := a127.n l140
      refine cn hm (fun hm => ?_) fun hm => ?_
      ·exact sr (Nb rfl (.ret (rt hm a142)))
      ·refine sk (Cw.seq (Cw.seq (Cw.draw [] [(0, 1), (1, 1), (2, 2), (3, 2), (4, 0)] mixed (by kernel_rfl) fun W156 l156 => ?_)))
       have a157 := a142.n l156
       have b166 := ((((((((b56.up l61).up l68).up l77).up l89).up l102).up l113).up l126).up l140).up l156
       have b168 := (((((b77.up l89).up l102).up l113).up l126).up l140).up l156
       refine Mw.q rfl rfl (fun _ c => R.lda (cs := [v0_0_61, v0_1_61]) (b168.clcs rfl c) rfl rfl) (Mw.q rfl rfl (fun _ c => R.lda (cs := [v0_0_, v0_1_]) (b166.clcs rfl c) rfl rfl) ?_)
       obtain ⟨z172, e173, hm⟩ := ob hm
       refine Mw.t rfl rfl (T.call rfl (p11 (k0 := 14) (k1 := 15) (Repo.rd (K := [0]) x0.Commits x0.Heads (h0_0.ul a157) (h0_1.ul a157)) e173)) ?_
       rintro _ _ ⟨W174, rfl, l174, ⟨v0_0_174, v0_1_174, rfl, f174_0, f174_1⟩⟩
       have a175 := a157.n l174
       have o179 := (((((o94.up l102).up l113).up l126).up l140).up l156).up l174
       have o180 := (((((o95.up l102).up l113).up l126).up l140).up l156).up l174
       refine m0 l174 fun d174 => ?_
       obtain ⟨z188, e189, hm⟩ := ob hm
       refine Mw.t rfl rfl (T.call rfl (p14 (K := [7, 8, 14, 15])  (x0 := (Vm.Repo.mk z59.Commits z59.Heads)) (x1 := (Vm.Repo.mk z172.Commits z172.Heads)) ((Repo.rd (K := [7, 8]) z59.Commits z59.Heads (o179.rd.sub (M := [7, 8]) rfl) (o180.rd.sub (M := [7, 8]) rfl)).sub (M := [7, 8, 14, 15]) rfl) ((Repo.rd (K := [14, 15]) z172.Commits z172.Heads (f174_0.rd.sub (M := [14, 15]) rfl) (f174_1.rd.sub (M := [14, 15]) rfl)).sub (M := [7, 8, 14, 15]) rfl) e189)) ?_
       rintro _ _ ⟨W190, rfl, l190, rfl⟩
       have a191 := a175.n l190
       refine mc d174 l190 fun d190 => Mw.p rfl rfl (fun _ => R.not rfl) (Mw.nil (cn hm (fun hm => ?_) fun hm => ?_))
       ·exact sr (Nb rfl (.ret (rt hm a191)))
       ·refine sk (ssr (mv v0_89 rfl (mv v3_ rfl (cr hm (fun _ => p12 (k0 := 16) (h3.ul a191)) ?_))))
        rintro z208 v0_210 W210 hm l210 ⟨_, rfl, f210_0⟩
        have a211 := a191.n l210
        have o217 := (((((((f89_0.up l102).up l113).up l126).up l140).up l156).up l174).up l190).up l210
        refine ca hm (fun _ => p15 (K := [10, 16]) (o217.rd.sub (M := [10, 16]) rfl) (f210_0.rd.sub (M := [10, 16]) rfl)) fun z226 W228 hm l228 => ?_
        have a229 := a211.n l228
        refine Lw.r rfl (R.not rfl) (nl (cn hm (fun hm => ?_) fun hm => ?_))
        ·exact sr (Nb rfl (.ret (rt hm a229)))
        ·refine sk (sr (Ni rfl (sr (la ((((b168.up l174).up l190).up l210).up l228) (mi rfl (cr hm (fun _ => p16 (K := [0]) (c0 := 7) (c1 := 8) (x0 := (Vm.Repo.mk z59.Commits z59.Heads)) (((o179.up l190).up l210).up l228) (((o180.up l190).up l210).up l228) rfl) ?_))))))
         rintro z246 _ W248 hm l248 ⟨rfl, f248_0, f248_1⟩
         have a249 := a229.t l248
         refine Ni rfl (sr (mv v0_89 rfl (mi rfl (cr hm (fun _ => p17 (K := [0]) (c0 := 10) ((o217.up l228).up l248) rfl) ?_))))
         rintro z263 _ W265 hm l265 ⟨rfl, f265_0⟩
         have a266 := a249.t l265
         have o272 := (((((((o134.up l140).up l156).up l174).up l190).up l210).up l228).up l248).up l265
         have o273 := (((((((o135.up l140).up l156).up l174).up l190).up l210).up l228).up l248).up l265
         have b278 := (((((((b137.up l140).up l156).up l174).up l190).up l210).up l228).up l248).up l265
         have b280 := (((((((b126.up l140).up l156).up l174).up l190).up l210).up l228).up l248).up l265
         refine Ni rfl (Cw.seq ?_)
         obtain ⟨K283, hK283, hm⟩ := jn_e hm
         refine Cw.join 84 96 [96] (fun l w => ∃ y281 W282, CW.w W282 = w ∧ Le [] W265 W282 ∧ l = [vB y281] ∧ K283 y281 = some r) ?_ ?_
         ·rintro _ _ σ ⟨y281, W282, rfl, l282, rfl, hm⟩
          rw [hK283] at hm
          have a284 := a266.n l282
          refine cn hm (fun hm => ?_) fun hm => ?_
          ·exact sr (Nb rfl (.ret (rt hm a284)))
          ·refine sk (sr (Ni rfl (sr (la (b280.up l282) (mi rfl (cr hm (fun _ => p16 (K := [0]) (c0 := 11) (c1 := 12) (x0 := (Vm.Repo.mk z100.1.Commits z100.1.Heads)) (o272.up l282) (o273.up l282) rfl) ?_))))))
           rintro z301 _ W303 hm l303 ⟨rfl, f303_0, f303_1⟩
           have a304 := a284.t l303
           refine Ni rfl (sr (Ni rfl (sr (la ((b280.up l282).up l303) (mi rfl (ca hm (fun _ => p18 (K := [11, 12]) (x0 := (Vm.Repo.mk z301.2.Commits z301.2.Heads)) (Repo.rd (K := [11, 12]) z301.2.Commits z301.2.Heads (f303_0.rd.sub (M := [11, 12]) rfl) (f303_1.rd.sub (M := [11, 12]) rfl))) fun z318 W320 hm l320 => ?_))))))
           have a321 := a304.n l320
           refine Ni rfl (ssr (mi rfl (Lw.lt rfl (nl (cn hm (fun hm => ?_) fun hm => ?_)))))
           ·exact sr (Nb rfl (.ret (rt hm a321)))
           ·refine sk (ssr (mi rfl (mi rfl (Lw.ne rfl (nl (cn hm (fun hm => ?_) fun hm => ?_))))))
            ·exact sr (Nb rfl (.ret (rt hm a321)))
            ·refine sk (sr (la (((((((((b166.up l174).up l190).up l210).up l228).up l248).up l265).up l282).up l303).up l320) (cr hm (fun _ => p11 (k0 := 17) (k1 := 18) (Repo.rd (K := [0]) x0.Commits x0.Heads (h0_0.ul a321) (h0_1.ul a321))) ?_)))
             rintro z341 _ W343 hm l343 ⟨v0_0_343, v0_1_343, rfl, f343_0, f343_1⟩
             have a344 := a321.n l343
             refine ms rfl (ms rfl (mv v3_ rfl (cr hm (fun _ => p12 (k0 := 19) (h3.ul a344)) ?_)))
             rintro z361 v0_363 W363 hm l363 ⟨_, rfl, f363_0⟩
             have a364 := a344.n l363
             refine cr hm (fun _ => p13 (K := [0, 17, 18, 19]) (k0 := 20) (k1 := 21) (x0 := (Vm.Repo.mk z341.Commits z341.Heads)) ((Repo.rd (K := [17, 18]) z341.Commits z341.Heads ((f343_0.up l363).rd.sub (M := [17, 18]) rfl) ((f343_1.up l363).rd.sub (M := [17, 18]) rfl)).sub (M := [0, 17, 18, 19]) rfl) (f363_0.rd.sub (M := [0, 17, 18, 19]) rfl) ((h99.ul a364).sub (M := [0, 17, 18, 19]) rfl)) ?_
             rintro z383 _ W385 hm l385 ⟨v0_0_385, v0_1_385, rfl, f385_0, f385_1⟩
             have a386 := a364.n l385
             refine mv (.tuple [.agg [v0_0_385, v0_1_385].toArray, vB z383.2].toArray) rfl (Lw.r rfl (R.ext (vs := [.agg [v0_0_385, v0_1_385].toArray, vB z383.2]) (v := .agg [v0_0_385, v0_1_385].toArray) rfl rfl) (Lw.r rfl (R.ext (vs := [.agg [v0_0_385, v0_1_385].toArray, vB z383.2]) (v := vB z383.2) rfl rfl) (al 22 [.slice none 0 0, .slice none 0 0] fun g405 W405 l405 b405 => ?_)))
             have a406 := a386.n l405
             refine sta b405 (oc_cons (f385_0.up l405).oc (oc_cons (f385_1.up l405).oc oc_nil)) fun W427 l427 b427 => ?_
             have a428 := a406.t l427
             refine Nb rfl (Cw.seq ?_)
             obtain ⟨K451, hK451, hm⟩ := jn_e hm
             refine Cw.join 118 126 [126] (fun l w => ∃ y449 W450, CW.w W450 = w ∧ Le [] W427 W450 ∧ l = [vB y449] ∧ K451 y449 = some r) ?_ ?_
             ·rintro _ _ σ ⟨y449, W450, rfl, l450, rfl, hm⟩
              rw [hK451] at hm
              have a452 := a428.n l450
              refine cn hm (fun hm => ?_) fun hm => ?_
              ·exact sr (Nb rfl (.ret (rt hm a452)))
              ·refine sk (sr (Ni rfl (sr (la (((((((((b280.up l282).up l303).up l320).up l343).up l363).up l385).up l405).up l427).up l450) (mi rfl (ca hm (fun _ => p18 (K := [11, 12]) (x0 := (Vm.Repo.mk z301.2.Commits z301.2.Heads)) (Repo.rd (K := [11, 12]) z301.2.Commits z301.2.Heads ((((((((f303_0.up l320).up l343).up l363).up l385).up l405).up l427).up l450).rd.sub (M := [11, 12]) rfl) ((((((((f303_1.up l320).up l343).up l363).up l385).up l405).up l427).up l450).rd.sub (M := [11, 12]) rfl))) fun z475 W477 hm l477 => ?_))))))
               have a478 := a452.n l477
               refine Ni rfl (ssr (mi rfl (Lw.lt rfl (nl (cn hm (fun hm => ?_) fun hm => ?_)))))
               ·exact sr (Nb rfl (.ret (rt hm a478)))
               ·refine sk (ssr (mi rfl (mi rfl (Lw.ne rfl (nl (cn hm (fun hm => ?_) fun hm => ?_))))))
                ·exact sr (Nb rfl (.ret (rt hm a478)))
                ·exact sk (sr (Nb rfl (.ret (rt hm a478))))
             ·refine rg (la b427 (la ((((((((b278.up l282).up l303).up l320).up l343).up l363).up l385).up l405).up l427) ?_))
              have s502 := s38.up ((l45.sub (M := [6, 7, 8, 9, 10, 11, 12, 13, 22]) rfl).trans ((l51.sub (M := [6, 7, 8, 9, 10, 11, 12, 13, 22]) rfl).trans ((l61.sub (M := [6, 7, 8, 9, 10, 11, 12, 13, 22]) rfl).trans ((l68.sub (M := [6, 7, 8, 9, 10, 11, 12, 13, 22]) rfl).trans ((l77.sub (M := [6, 7, 8, 9, 10, 11, 12, 13, 22]) rfl).trans ((l89.sub (M := [6, 7, 8, 9, 10, 11, 12, 13, 22]) rfl).trans ((l102.sub (M := [6, 7, 8, 9, 10, 11, 12, 13, 22]) rfl).trans ((l113.sub (M := [6, 7, 8, 9, 10, 11, 12, 13, 22]) rfl).trans ((l126.sub (M := [6, 7, 8, 9, 10, 11, 12, 13, 22]) rfl).trans ((l140.sub (M := [6, 7, 8, 9, 10, 11, 12, 13, 22]) rfl).trans ((l156.sub (M := [6, 7, 8, 9, 10, 11, 12, 13, 22]) rfl).trans ((l174.sub (M := [6, 7, 8, 9, 10, 11, 12, 13, 22]) rfl).trans ((l190.sub (M := [6, 7, 8, 9, 10, 11, 12, 13, 22]) rfl).trans ((l210.sub (M := [6, 7, 8, 9, 10, 11, 12, 13, 22]) rfl).trans ((l228.sub (M := [6, 7, 8, 9, 10, 11, 12, 13, 22]) rfl).trans ((l248.sub (M := [6, 7, 8, 9, 10, 11, 12, 13, 22]) rfl).trans ((l265.sub (M := [6, 7, 8, 9, 10, 11, 12, 13, 22]) rfl).trans ((l282.sub (M := [6, 7, 8, 9, 10, 11, 12, 13, 22]) rfl).trans ((l303.sub (M := [6, 7, 8, 9, 10, 11, 12, 13, 22]) rfl).trans ((l320.sub (M := [6, 7, 8, 9, 10, 11, 12, 13, 22]) rfl).trans ((l343.sub (M := [6, 7, 8, 9, 10, 11, 12, 13, 22]) rfl).trans ((l363.sub (M := [6, 7, 8, 9, 10, 11, 12, 13, 22]) rfl).trans ((l385.sub (M := [6, 7, 8, 9, 10, 11, 12, 13, 22]) rfl).trans ((l405.sub (M := [6, 7, 8, 9, 10, 11, 12, 13, 22]) rfl).trans (l427.sub (M := [6, 7, 8, 9, 10, 11, 12, 13, 22]) rfl))))))))))))))))))))))))) rfl
              have s503 := s39.up ((l45.sub (M := [6, 7, 8, 9, 10, 11, 12, 13, 22]) rfl).trans ((l51.sub (M := [6, 7, 8, 9, 10, 11, 12, 13, 22]) rfl).trans ((l61.sub (M := [6, 7, 8, 9, 10, 11, 12, 13, 22]) rfl).trans ((l68.sub (M := [6, 7, 8, 9, 10, 11, 12, 13, 22]) rfl).trans ((l77.sub (M := [6, 7, 8, 9, 10, 11, 12, 13, 22]) rfl).trans ((l89.sub (M := [6, 7, 8, 9, 10, 11, 12, 13, 22]) rfl).trans ((l102.sub (M := [6, 7, 8, 9, 10, 11, 12, 13, 22]) rfl).trans ((l113.sub (M := [6, 7, 8, 9, 10, 11, 12, 13, 22]) rfl).trans ((l126.sub (M := [6, 7, 8, 9, 10, 11, 12, 13, 22]) rfl).trans ((l140.sub (M := [6, 7, 8, 9, 10, 11, 12, 13, 22]) rfl).trans ((l156.sub (M := [6, 7, 8, 9, 10, 11, 12, 13, 22]) rfl).trans ((l174.sub (M := [6, 7, 8, 9, 10, 11, 12, 13, 22]) rfl).trans ((l190.sub (M := [6, 7, 8, 9, 10, 11, 12, 13, 22]) rfl).trans ((l210.sub (M := [6, 7, 8, 9, 10, 11, 12, 13, 22]) rfl).trans ((l228.sub (M := [6, 7, 8, 9, 10, 11, 12, 13, 22]) rfl).trans ((l248.sub (M := [6, 7, 8, 9, 10, 11, 12, 13, 22]) rfl).trans ((l265.sub (M := [6, 7, 8, 9, 10, 11, 12, 13, 22]) rfl).trans ((l282.sub (M := [6, 7, 8, 9, 10, 11, 12, 13, 22]) rfl).trans ((l303.sub (M := [6, 7, 8, 9, 10, 11, 12, 13, 22]) rfl).trans ((l320.sub (M := [6, 7, 8, 9, 10, 11, 12, 13, 22]) rfl).trans ((l343.sub (M := [6, 7, 8, 9, 10, 11, 12, 13, 22]) rfl).trans ((l363.sub (M := [6, 7, 8, 9, 10, 11, 12, 13, 22]) rfl).trans ((l385.sub (M := [6, 7, 8, 9, 10, 11, 12, 13, 22]) rfl).trans ((l405.sub (M := [6, 7, 8, 9, 10, 11, 12, 13, 22]) rfl).trans (l427.sub (M := [6, 7, 8, 9, 10, 11, 12, 13, 22]) rfl))))))))))))))))))))))))) rfl
              refine ca hm (fun _ => p14 (K := [0, 3, 4, 5, 20, 21]) (x0 := (Vm.Repo.mk z383.1.Commits z383.1.Heads)) ((Repo.rd (K := [20, 21]) z383.1.Commits z383.1.Heads (((f385_0.up l405).up l427).rd.sub (M := [20, 21]) rfl) (((f385_1.up l405).up l427).rd.sub (M := [20, 21]) rfl)).sub (M := [0, 3, 4, 5, 20, 21]) rfl) ((Repo.rd (K := [0, 3, 4, 5]) z35.1.Commits z35.1.Heads s502 s503).sub (M := [0, 3, 4, 5, 20, 21]) rfl)) fun z504 W506 hm l506 => Lw.r rfl (R.not rfl) (mb rfl (bs hm (fun hc529 hm => ?_) fun hc529 hm => ?_))
              ·exact psk 3 hc529 rfl (Pb hc529 rfl (nl ((ag) ⟨true, W506, rfl, l506, rfl, hm⟩)))
              ·exact wak 3 hc529 (mb rfl (mb rfl (Lw.r rfl (R.bne rfl rfl) (Pb hc529 rfl (nl ((ag) ⟨(z383.2 != z35.2), W506, rfl, l506, rfl, hm⟩))))))
         ·refine rg (mi rfl (Lw.lt rfl (mb rfl (bs hm (fun hc530 hm => ?_) fun hc530 hm => ?_))))
          ·exact psk 4 hc530 rfl (Pb hc530 rfl (mb rfl (psk 3 rfl rfl (Pb rfl rfl (nl ((ag) ⟨true, W265, rfl, Le.refl _ _, rfl, hm⟩))))))
          ·refine wak 4 hc530 (la b280 (la b278 ?_))
           have s531 := s38.up ((l45.sub (M := [6, 7, 8, 9, 10, 13]) rfl).trans ((l51.sub (M := [6, 7, 8, 9, 10, 13]) rfl).trans ((l61.sub (M := [6, 7, 8, 9, 10, 13]) rfl).trans ((l68.sub (M := [6, 7, 8, 9, 10, 13]) rfl).trans ((l77.sub (M := [6, 7, 8, 9, 10, 13]) rfl).trans ((l89.sub (M := [6, 7, 8, 9, 10, 13]) rfl).trans ((l102.sub (M := [6, 7, 8, 9, 10, 13]) rfl).trans ((l113.sub (M := [6, 7, 8, 9, 10, 13]) rfl).trans ((l126.sub (M := [6, 7, 8, 9, 10, 13]) rfl).trans ((l140.sub (M := [6, 7, 8, 9, 10, 13]) rfl).trans ((l156.sub (M := [6, 7, 8, 9, 10, 13]) rfl).trans ((l174.sub (M := [6, 7, 8, 9, 10, 13]) rfl).trans ((l190.sub (M := [6, 7, 8, 9, 10, 13]) rfl).trans ((l210.sub (M := [6, 7, 8, 9, 10, 13]) rfl).trans ((l228.sub (M := [6, 7, 8, 9, 10, 13]) rfl).trans ((l248.sub (M := [6, 7, 8, 9, 10, 13]) rfl).trans (l265.sub (M := [6, 7, 8, 9, 10, 13]) rfl))))))))))))))))) rfl
           have s532 := s39.up ((l45.sub (M := [6, 7, 8, 9, 10, 13]) rfl).trans ((l51.sub (M := [6, 7, 8, 9, 10, 13]) rfl).trans ((l61.sub (M := [6, 7, 8, 9, 10, 13]) rfl).trans ((l68.sub (M := [6, 7, 8, 9, 10, 13]) rfl).trans ((l77.sub (M := [6, 7, 8, 9, 10, 13]) rfl).trans ((l89.sub (M := [6, 7, 8, 9, 10, 13]) rfl).trans ((l102.sub (M := [6, 7, 8, 9, 10, 13]) rfl).trans ((l113.sub (M := [6, 7, 8, 9, 10, 13]) rfl).trans ((l126.sub (M := [6, 7, 8, 9, 10, 13]) rfl).trans ((l140.sub (M := [6, 7, 8, 9, 10, 13]) rfl).trans ((l156.sub (M := [6, 7, 8, 9, 10, 13]) rfl).trans ((l174.sub (M := [6, 7, 8, 9, 10, 13]) rfl).trans ((l190.sub (M := [6, 7, 8, 9, 10, 13]) rfl).trans ((l210.sub (M := [6, 7, 8, 9, 10, 13]) rfl).trans ((l228.sub (M := [6, 7, 8, 9, 10, 13]) rfl).trans ((l248.sub (M := [6, 7, 8, 9, 10, 13]) rfl).trans (l265.sub (M := [6, 7, 8, 9, 10, 13]) rfl))))))))))))))))) rfl
           refine ca hm (fun _ => p14 (K := [0, 3, 4, 5, 11, 12]) (x0 := (Vm.Repo.mk z100.1.Commits z100.1.Heads)) ((Repo.rd (K := [11, 12]) z100.1.Commits z100.1.Heads (o272.rd.sub (M := [11, 12]) rfl) (o273.rd.sub (M := [11, 12]) rfl)).sub (M := [0, 3, 4, 5, 11, 12]) rfl) ((Repo.rd (K := [0, 3, 4, 5]) z35.1.Commits z35.1.Heads s531 s532).sub (M := [0, 3, 4, 5, 11, 12]) rfl)) fun z533 W535 hm l535 => Lw.r rfl (R.not rfl) (Pb hc530 rfl (mb rfl (bs hm (fun hc552 hm => ?_) fun hc552 hm => ?_)))
           ·exact psk 3 hc552 rfl (Pb hc552 rfl (nl ((ag) ⟨true, W535, rfl, l535, rfl, hm⟩)))
           ·exact wak 3 hc552 (mb rfl (mb rfl (Lw.r rfl (R.bne rfl rfl) (Pb hc552 rfl (nl ((ag) ⟨(z100.2 != z35.2), W535, rfl, l535, rfl, hm⟩))))))
     ·refine rg (la b126 (la b137 ?_))
      have s553 := s38.up ((l45.sub (M := [6, 9, 13]) rfl).trans ((l51.sub (M := [6, 9, 13]) rfl).trans ((l61.sub (M := [6, 9, 13]) rfl).trans ((l68.sub (M := [6, 9, 13]) rfl).trans ((l77.sub (M := [6, 9, 13]) rfl).trans ((l89.sub (M := [6, 9, 13]) rfl).trans ((l102.sub (M := [6, 9, 13]) rfl).trans ((l113.sub (M := [6, 9, 13]) rfl).trans (l126.sub (M := [6, 9, 13]) rfl))))))))) rfl
      have s554 := s39.up ((l45.sub (M := [6, 9, 13]) rfl).trans ((l51.sub (M := [6, 9, 13]) rfl).trans ((l61.sub (M := [6, 9, 13]) rfl).trans ((l68.sub (M := [6, 9, 13]) rfl).trans ((l77.sub (M := [6, 9, 13]) rfl).trans ((l89.sub (M := [6, 9, 13]) rfl).trans ((l102.sub (M := [6, 9, 13]) rfl).trans ((l113.sub (M := [6, 9, 13]) rfl).trans (l126.sub (M := [6, 9, 13]) rfl))))))))) rfl
      refine ca hm (fun _ => p14 (K := [0, 3, 4, 5, 11, 12]) (x0 := (Vm.Repo.mk z100.1.Commits z100.1.Heads)) ((Repo.rd (K := [11, 12]) z100.1.Commits z100.1.Heads (o134.rd.sub (M := [11, 12]) rfl) (o135.rd.sub (M := [11, 12]) rfl)).sub (M := [0, 3, 4, 5, 11, 12]) rfl) ((Repo.rd (K := [0, 3, 4, 5]) z35.1.Commits z35.1.Heads s553 s554).sub (M := [0, 3, 4, 5, 11, 12]) rfl)) fun z555 W557 hm l557 => Lw.r rfl (R.not rfl) (mb rfl (bs hm (fun hc571 hm => ?_) fun hc571 hm => ?_))
      ·exact psk 3 hc571 rfl (Pb hc571 rfl (nl ((ag) ⟨true, W557, rfl, l557, rfl, hm⟩)))
      ·exact wak 3 hc571 (mb rfl (mb rfl (Lw.r rfl (R.bne rfl rfl) (Pb hc571 rfl (nl ((ag) ⟨(z100.2 != z35.2), W557, rfl, l557, rfl, hm⟩))))))

theorem p3 {x0 v0_0_ v0_1_ x1 x2 x3 v3_ r} (h0 : Rd W K [v0_0_, v0_1_] x0) (h3 : Rd W K [v3_] x3) (h99 : Gl 2 W K) (hm : Vm.laws_FnExactRepoCommit x0 x1 x2 x3 = some r) : Q1 3 [.agg [v0_0_, v0_1_].toArray, vS x1, vS x2, v3_] W [] fun W' v => v = vB r :=
 (c3 (h0.view _) (h3.view _) (h99.view _) hm).ad (fk 0) fun _ _ e => e

end Go.Sx
