/- Walks: each function answers as its model, printed by a program of ours. Conditions: the arguments read as they are given. -/
import Derived.Test.YtidkloialdageaaGreatDoorDTs
import Derived.Test.YtidkloialdageaaGreatDoorDM0
namespace Go.Sx
open Go Go.Proofs Go.Vm Rp
set_option linter.unusedVariables false
set_option linter.unusedSimpArgs false
variable {W W0 : CW} {K : List Nat}
theorem c81 {x0 v0_ r} (h0 : Rd W0 [0] [v0_] x0) (hm : Vm.spec_l30Open x0 = some r) : Q0 81 [v0_] W0 fun Wf v => ∃ (ug0 : Nat) (u0_0 : Value), v = ptr (bx ug0) ∧ Bx Wf 31 ug0 [u0_0, vI r.p] ∧ Rd Wf [0] [u0_0] r.b := by
 unfold Vm.spec_l30Open at hm
 refine CallR.of Tryz.func81 rfl rfl rfl rfl (sr (Nv (.pointer none) rfl ?_))
 obtain ⟨K5, hK5, hm⟩ := jn_e hm
 refine Cw.join 3 7 [0] (fun l w => ∃ y1 v2 W4, CW.w W4 = w ∧ Le [] W0 W4 ∧ l = [v2] ∧ Rd W4 [0] [v2] y1 ∧ K5 y1 = some r) ?_ ?_
 ·rintro _ _ σ ⟨y1, v2, W4, rfl, l4, rfl, r3, hm⟩
  rw [hK5] at hm
  have a6 := l4.o
  refine sr (mv v2 rfl (Lw.r rfl (R.bd (zs := [.slice none 0 0, vI 0]) (cs := [v2, vI 0]) [(0, v2)] rfl rfl rfl (bp_cons r3.oc rfl bp_nil)) (bo 2 rfl fun g7 W7 l7 b7 => ?_)))
  have a8 := l7.o
  refine Np rfl ?_
  obtain ⟨W9, ew9, l9, b9⟩ := b7.dyeO 31
  have a10 := l9.s
  cases hm
  rw [← ew9]
  exact Cw.ret (ret1 rfl (Res.mk ((a6.trans a8).trans a10) ⟨g7, v2, rfl, b9, (r3.ul (a8.trans a10))⟩))
 ·refine sr (mv v0_ rfl (Lw.ln x0 h0 rfl (Lw.gt rfl (nl (cn hm (fun hm => ?_) fun hm => ?_)))))
  ·refine rg (mv v0_ rfl ?_)
   obtain ⟨q13, e14, hm⟩ := ob hm
   have r16 := h0.cutV e14
   exact Lw.r rfl (R.sl h0 e14 rfl (.inl ⟨rfl, rfl⟩) (.inr rfl)) (Nv (cutV v0_ (0 : Int).toNat (2000 : Int).toNat (Rp.sz (Byte))) rfl ((ag) ⟨q13, (cutV v0_ (0 : Int).toNat (2000 : Int).toNat (Rp.sz (Byte))), W0, rfl, Le.refl _ _, rfl, r16, hm⟩))
  ·exact sk ((ag) ⟨x0, v0_, W0, rfl, Le.refl _ _, rfl, h0, hm⟩)
theorem p81 {x0 v0_ k0 r} (h0 : Rd W K [v0_] x0) (hm : Vm.spec_l30Open x0 = some r) : Q1 81 [v0_] W [] fun W' v => ∃ (ug0 : Nat) (u0_0 : Value), v = ptr (bx ug0) ∧ Bx W' k0 ug0 [u0_0, vI r.p] ∧ Rd W' (0 :: K) [u0_0] r.b :=
 CallR.adJ (J := []) (fun c => bif Nat.beq c 0 then 0 else bif Nat.beq c 31 then k0 else 0) (c81 (h0.view _) hm) fun _ _ ⟨ug0, u0_0, e, f0, f1⟩ => ⟨ug0, u0_0, e, f0.backN rfl, f1.back rfl⟩
theorem c85 {x0 g0_ v0_0_ x1 r} (hB0 : Bx W0 2 g0_ [v0_0_, vI x0.p]) (h0_0 : Rd W0 [0] [v0_0_] x0.b) (hm : Vm.spec_l30Rd_pick x0 x1 = some r) : Q0 85 [ptr (bx g0_), vI x1] W0 fun Wf v => v = vI r.1 ∧ Bx Wf 2 g0_ [v0_0_, vI r.2] := by
 unfold Vm.spec_l30Rd_pick at hm
 refine CallR.of Tryz.func85 rfl rfl rfl rfl (sr (Ni rfl (sr (mp rfl (mp rfl (Lw.r rfl (R.nc rfl) (Lw.fa rfl (Lw.r rfl (R.ld (v := vI x0.p) rfl rfl (hB0.cell rfl)) (Lw.add rfl (Lw.r rfl (R.nc rfl) (Lw.fa rfl (Lw.u (T.st (j := 1) (v := vI (w64 (x0.p + 1))) hB0 rfl rfl rfl rfl rfl) ?_))))))))))))
 rintro _ _ ⟨W1, rfl, l1, b1⟩
 have a2 := l1.s
 refine nl (Cw.seq ?_)
 obtain ⟨K5, hK5, hm⟩ := jn_e hm
 refine Cw.join 15 24 [24] (fun l w => ∃ y3 W4, CW.w W4 = w ∧ Le [] W1 W4 ∧ l = [vB y3] ∧ K5 y3 = some r) ?_ ?_
 ·rintro _ _ σ ⟨y3, W4, rfl, l4, rfl, hm⟩
  rw [hK5] at hm
  have a6 := a2.n l4
  have b7 := b1.up l4
  refine cn hm (fun hm => ?_) fun hm => ?_
  ·refine sr (Ni rfl ?_)
   cases hm
   exact Cw.ret (ret1 rfl (Res.mk a6 ⟨rfl, b7⟩))
  ·refine sk (sr (mp rfl (Lw.r rfl (R.nc rfl) (fl b7 rfl (Lw.sub rfl (Ni rfl (ssr ?_)))))))
   have s9 := h0_0.ul a6
   refine mi rfl (mp rfl (Lw.r rfl (R.nc rfl) (fl b7 rfl (Lw.ln x0.b s9 rfl (Lw.lt rfl (nl (cn hm (fun hm => ?_) fun hm => ?_)))))))
   ·refine sr (mp rfl (Lw.r rfl (R.nc rfl) (fl b7 rfl (mi rfl ?_))))
    obtain ⟨u11, e12, hm⟩ := ob hm
    refine Lw.r rfl (R.ix (α := Byte) s9 e12 rfl rfl rfl) (Lw.r rfl (R.ld rfl rfl (s9.at_ e12).byte) (Lw.r rfl (R.cvI rfl rfl) (mi rfl ?_)))
    obtain ⟨_, e13, hm⟩ := ob hm
    refine Lw.r rfl (R.rem rfl rfl (nz e13)) (Ni rfl ?_)
    cases hm
    exact Cw.ret (ret1 rfl (Res.mk a6 ⟨rfl, b7⟩))
   ·refine sk (Cw.seq (Cw.draw [] [(0, 0), (1, 0), (2, 0), (3, 1), (4, 0), (5, 0), (6, 0), (7, 0), (8, 1), (9, 0), (10, 0), (11, 0), (12, 1), (13, 0), (14, 0), (15, 0), (16, 0), (17, 0), (18, 1), (19, 0), (20, 0), (21, 0), (22, 0), (23, 0), (24, 0), (25, 1), (26, 0), (27, 0), (28, 0), (29, 1), (30, 0), (31, 0), (32, 0), (33, 0), (34, 0), (35, 0), (36, 0), (37, 0), (38, 0), (39, 0), (40, 1), (41, 0), (42, 0), (43, 0), (44, 0), (45, 0)] mixed (by kernel_rfl) fun W14 l14 => ?_))
    have a15 := a6.n l14
    have b16 := b7.up l14
    have s17 := h0_0.ul a15
    refine Dp rfl (Mw.p rfl rfl (fun _ => R.nc rfl) (Dfl b16 rfl rfl rfl (Di rfl (Dp rfl (Mw.p rfl rfl (fun _ => R.nc rfl) (Dfl b16 rfl rfl rfl (Mw.p rfl rfl (fun _ => lenR (xs := x0.b) s17 rfl) ?_)))))))
    obtain ⟨_, e18, hm⟩ := ob hm
    refine Mw.p rfl rfl (fun _ => R.rem rfl rfl (nz e18)) ?_
    obtain ⟨u19, e20, hm⟩ := ob hm
    refine Mw.p rfl rfl (fun _ => R.ix (α := Byte) s17 e20 rfl rfl rfl) (Mw.q rfl rfl (fun _ c => R.ld rfl rfl (cl_cell (s17.at_ e20).1 rfl (s17.at_ e20).byte c)) (Mw.p rfl rfl (fun _ => R.cvI rfl rfl) (Mw.p rfl rfl (fun _ => R.mul rfl rfl) (Dp rfl (Mw.p rfl rfl (fun _ => R.nc rfl) (Dfl b16 rfl rfl rfl (Di rfl (Mw.p rfl rfl (fun _ => R.mul rfl rfl) (Mw.p rfl rfl (fun _ => R.add rfl rfl) (Dp rfl (Mw.p rfl rfl (fun _ => R.nc rfl) (Dfl b16 rfl rfl rfl (Mw.p rfl rfl (fun _ => lenR (xs := x0.b) s17 rfl) ?_)))))))))))))
    obtain ⟨_, e21, hm⟩ := ob hm
    refine Mw.p rfl rfl (fun _ => R.rem rfl rfl (nz e21)) ?_
    obtain ⟨u22, e23, hm⟩ := ob hm
    refine Mw.p rfl rfl (fun _ => R.ix (α := Byte) s17 e23 rfl rfl rfl) (Mw.q rfl rfl (fun _ c => R.ld rfl rfl (cl_cell (s17.at_ e23).1 rfl (s17.at_ e23).byte c)) (Mw.p rfl rfl (fun _ => R.cvI rfl rfl) (Mw.p rfl rfl (fun _ => R.mul rfl rfl) (Mw.p rfl rfl (fun _ => R.add rfl rfl) (Di rfl (Mw.p rfl rfl (fun _ => R.mul rfl rfl) (Mw.p rfl rfl (fun _ => R.add rfl rfl) (Di rfl (Dp rfl (Mw.p rfl rfl (fun _ => R.nc rfl) (Dfl b16 rfl rfl rfl (Mw.p rfl rfl (fun _ => lenR (xs := x0.b) s17 rfl) ?_))))))))))))
    obtain ⟨_, e24, hm⟩ := ob hm
    refine Mw.p rfl rfl (fun _ => R.quo rfl rfl (nz e24)) (Mw.p rfl rfl (fun _ => R.mul rfl rfl) (Mw.p rfl rfl (fun _ => R.add rfl rfl) (Hi rfl (Mw.nil (sr (mi rfl (mi rfl (Lw.r rfl (R.quo rfl rfl (by decide)) (Lw.r rfl (R.xor rfl rfl) (Ni rfl (sr (mi rfl (mi rfl ?_)))))))))))))
    obtain ⟨_, e25, hm⟩ := ob hm
    refine Lw.r rfl (R.rem rfl rfl (nz e25)) (Ni rfl ?_)
    cases hm
    exact Cw.ret (ret1 rfl (Res.mk a15 ⟨rfl, b16⟩))
 ·refine rg (mi rfl (Lw.lt rfl (mb rfl (bs hm (fun hc26 hm => ?_) fun hc26 hm => ?_))))
  ·exact psk 6 hc26 rfl (Pb hc26 rfl (nl ((ag) ⟨true, W1, rfl, Le.refl _ _, rfl, hm⟩)))
  ·exact wak 6 hc26 (mp rfl (Lw.r rfl (R.nc rfl) (fl b1 rfl (Lw.ln x0.b (h0_0.ul a2) rfl (Lw.eq rfl (Pb hc26 rfl (nl ((ag) ⟨(((x0.b.length : Int) : Int) == (0 : Int)), W1, rfl, Le.refl _ _, rfl, hm⟩))))))))
theorem p85 {x0 g0_ v0_0_ x1 c0 r} (hB0 : Bx W c0 g0_ [v0_0_, vI x0.p]) (h0_0 : Rd W K [v0_0_] x0.b) (hJ : okJ K [c0] = true) (hm : Vm.spec_l30Rd_pick x0 x1 = some r) : Q1 85 [ptr (bx g0_), vI x1] W [c0] fun W' v => v = vI r.1 ∧ Bx W' c0 g0_ [v0_0_, vI r.2] :=
 CallR.adJ (J := [c0]) (fun c => bif Nat.beq c 0 then 0 else bif Nat.beq c 2 then c0 else 0) (c85 (hB0.viewJ 0 hJ) (h0_0.view _) hm) fun _ _ ⟨e, f0⟩ => ⟨e, Bx.backJ 0 f0 rfl⟩
theorem c136 {x0 g0_ v0_0_ x1 v1_ r} (hB0 : Bx W0 2 g0_ [v0_0_, vI x0.p]) (h0_0 : Rd W0 [0] [v0_0_] x0.b) (h1 : Rd W0 [0] [v1_] x1) (hm : Vm.spec_l30Rd_one x0 x1 = some r) : Q0 136 [ptr (bx g0_), v1_] W0 fun Wf v => v = vI r.1 ∧ Bx Wf 2 g0_ [v0_0_, vI r.2] := by
 unfold Vm.spec_l30Rd_one at hm
 refine CallR.of Tryz.func136 rfl rfl rfl rfl (sr (Ni rfl (sr (mv v1_ rfl (mp rfl (mv v1_ rfl (Lw.ln x1 h1 rfl (cr hm (fun _ => p85 (c0 := 2) (x0 := x0) hB0 h0_0 rfl) ?_))))))))
 rintro z1 _ W3 hm l3 ⟨rfl, f3_0⟩
 have a4 := l3.s
 obtain ⟨u5, e6, hm⟩ := ob hm
 refine Lw.r rfl (R.ix (α := Int) (h1.ul a4) e6 rfl rfl rfl) (Lw.r rfl (R.ld rfl rfl ((h1.ul a4).at_ e6).int) (Ni rfl ?_))
 cases hm
 exact Cw.ret (ret1 rfl (Res.mk a4 ⟨rfl, f3_0⟩))
theorem p136 {x0 g0_ v0_0_ x1 v1_ c0 r} (hB0 : Bx W c0 g0_ [v0_0_, vI x0.p]) (h0_0 : Rd W K [v0_0_] x0.b) (h1 : Rd W K [v1_] x1) (hJ : okJ K [c0] = true) (hm : Vm.spec_l30Rd_one x0 x1 = some r) : Q1 136 [ptr (bx g0_), v1_] W [c0] fun W' v => v = vI r.1 ∧ Bx W' c0 g0_ [v0_0_, vI r.2] :=
 CallR.adJ (J := [c0]) (fun c => bif Nat.beq c 0 then 0 else bif Nat.beq c 2 then c0 else 0) (c136 (hB0.viewJ 0 hJ) (h0_0.view _) (h1.view _) hm) fun _ _ ⟨e, f0⟩ => ⟨e, Bx.backJ 0 f0 rfl⟩
theorem c102 {x0 g0_ v0_0_ x1 v1_ r} (hB0 : Bx W0 2 g0_ [v0_0_, vI x0.p]) (h0_0 : Rd W0 [0] [v0_0_] x0.b) (h1 : Rd W0 [0] [v1_] x1) (hm : Vm.spec_l30Rd_of x0 x1 = some r) : Q0 102 [ptr (bx g0_), v1_] W0 fun Wf v => v = vS r.1 ∧ Bx Wf 2 g0_ [v0_0_, vI r.2] := by
 unfold Vm.spec_l30Rd_of at hm
 refine CallR.of Tryz.func102 rfl rfl rfl rfl (sr (Ns rfl (sr (mv v1_ rfl (mp rfl (mv v1_ rfl (Lw.ln x1 h1 rfl (cr hm (fun _ => p85 (c0 := 2) (x0 := x0) hB0 h0_0 rfl) ?_))))))))
 rintro z1 _ W3 hm l3 ⟨rfl, f3_0⟩
 have a4 := l3.s
 obtain ⟨u5, e6, hm⟩ := ob hm
 refine Lw.r rfl (R.ix (α := Str) (h1.ul a4) e6 rfl rfl rfl) (Lw.r rfl (R.ld rfl rfl ((h1.ul a4).at_ e6).str) (Ns rfl ?_))
 cases hm
 exact Cw.ret (ret1 rfl (Res.mk a4 ⟨rfl, f3_0⟩))
theorem p102 {x0 g0_ v0_0_ x1 v1_ c0 r} (hB0 : Bx W c0 g0_ [v0_0_, vI x0.p]) (h0_0 : Rd W K [v0_0_] x0.b) (h1 : Rd W K [v1_] x1) (hJ : okJ K [c0] = true) (hm : Vm.spec_l30Rd_of x0 x1 = some r) : Q1 102 [ptr (bx g0_), v1_] W [c0] fun W' v => v = vS r.1 ∧ Bx W' c0 g0_ [v0_0_, vI r.2] :=
 CallR.adJ (J := [c0]) (fun c => bif Nat.beq c 0 then 0 else bif Nat.beq c 2 then c0 else 0) (c102 (hB0.viewJ 0 hJ) (h0_0.view _) (h1.view _) hm) fun _ _ ⟨e, f0⟩ => ⟨e, Bx.backJ 0 f0 rfl⟩
theorem c156 {x0 g0_ v0_0_ r} (hB0 : Bx W0 2 g0_ [v0_0_, vI x0.p]) (h0_0 : Rd W0 [0] [v0_0_] x0.b) (hm : Vm.spec_l30Branch x0 = some r) : Q0 156 [ptr (bx g0_)] W0 fun Wf v => v = vS r.1 ∧ Bx Wf 2 g0_ [v0_0_, vI r.2] := by
 unfold Vm.spec_l30Branch at hm
 refine CallR.of Tryz.func156 rfl rfl rfl rfl (sr (Ns rfl (sr (mp rfl (Lw.t rfl (T.bsS (α := Str) (xs := [([109, 97, 105, 110] : Str), ([109, 97, 105, 110] : Str), ([115, 105, 100, 101] : Str), ([100, 101, 118] : Str)]) 3 [] (W := W0) [vS ([109, 97, 105, 110] : Str), vS ([109, 97, 105, 110] : Str), vS ([115, 105, 100, 101] : Str), vS ([100, 101, 118] : Str)] (Each.cons ((rdS _)) (Each.cons ((rdS _)) (Each.cons ((rdS _)) (Each.cons ((rdS _)) Each.nil)))) rfl) ?_)))))
 rintro v1 _ ⟨W1, rfl, l1, o1⟩
 have a2 := l1.o
 have b3 := hB0.up l1
 refine cr hm (fun _ => p102 (K := [0, 3]) (c0 := 2) (x0 := x0) b3 ((h0_0.ul a2).sub (M := [0, 3]) rfl) (o1.rd.sub (M := [0, 3]) rfl) rfl) ?_
 rintro z5 _ W7 hm l7 ⟨rfl, f7_0⟩
 have a8 := a2.t l7
 refine Ns rfl ?_
 cases hm
 exact Cw.ret (ret1 rfl (Res.mk a8 ⟨rfl, f7_0⟩))
theorem p156 {x0 g0_ v0_0_ c0 r} (hB0 : Bx W c0 g0_ [v0_0_, vI x0.p]) (h0_0 : Rd W K [v0_0_] x0.b) (hJ : okJ K [c0] = true) (hm : Vm.spec_l30Branch x0 = some r) : Q1 156 [ptr (bx g0_)] W [c0] fun W' v => v = vS r.1 ∧ Bx W' c0 g0_ [v0_0_, vI r.2] :=
 CallR.adJ (J := [c0]) (fun c => bif Nat.beq c 0 then 0 else bif Nat.beq c 2 then c0 else 0) (c156 (hB0.viewJ 0 hJ) (h0_0.view _) hm) fun _ _ ⟨e, f0⟩ => ⟨e, Bx.backJ 0 f0 rfl⟩
theorem c86 {x0 g0_ v0_0_ r} (hB0 : Bx W0 2 g0_ [v0_0_, vI x0.p]) (h0_0 : Rd W0 [0] [v0_0_] x0.b) (hm : Vm.spec_l30Path x0 = some r) : Q0 86 [ptr (bx g0_)] W0 fun Wf v => v = vS r.1 ∧ Bx Wf 2 g0_ [v0_0_, vI r.2] := by
 unfold Vm.spec_l30Path at hm
 refine CallR.of Tryz.func86 rfl rfl rfl rfl (sr (Ns rfl (sr (mp rfl (Lw.t rfl (T.bsS (α := Str) (xs := [([97] : Str), ([98] : Str), ([100, 47, 101] : Str), ([100, 47, 102] : Str), ([103, 47, 104, 47, 105] : Str), ([103, 47, 107] : Str), ([122] : Str)]) 3 [] (W := W0) [vS ([97] : Str), vS ([98] : Str), vS ([100, 47, 101] : Str), vS ([100, 47, 102] : Str), vS ([103, 47, 104, 47, 105] : Str), vS ([103, 47, 107] : Str), vS ([122] : Str)] (Each.cons ((rdS _)) (Each.cons ((rdS _)) (Each.cons ((rdS _)) (Each.cons ((rdS _)) (Each.cons ((rdS _)) (Each.cons ((rdS _)) (Each.cons ((rdS _)) Each.nil))))))) rfl) ?_)))))
 rintro v1 _ ⟨W1, rfl, l1, o1⟩
 have a2 := l1.o
 have b3 := hB0.up l1
 refine cr hm (fun _ => p102 (K := [0, 3]) (c0 := 2) (x0 := x0) b3 ((h0_0.ul a2).sub (M := [0, 3]) rfl) (o1.rd.sub (M := [0, 3]) rfl) rfl) ?_
 rintro z5 _ W7 hm l7 ⟨rfl, f7_0⟩
 have a8 := a2.t l7
 refine Ns rfl ?_
 cases hm
 exact Cw.ret (ret1 rfl (Res.mk a8 ⟨rfl, f7_0⟩))
theorem p86 {x0 g0_ v0_0_ c0 r} (hB0 : Bx W c0 g0_ [v0_0_, vI x0.p]) (h0_0 : Rd W K [v0_0_] x0.b) (hJ : okJ K [c0] = true) (hm : Vm.spec_l30Path x0 = some r) : Q1 86 [ptr (bx g0_)] W [c0] fun W' v => v = vS r.1 ∧ Bx W' c0 g0_ [v0_0_, vI r.2] :=
 CallR.adJ (J := [c0]) (fun c => bif Nat.beq c 0 then 0 else bif Nat.beq c 2 then c0 else 0) (c86 (hB0.viewJ 0 hJ) (h0_0.view _) hm) fun _ _ ⟨e, f0⟩ => ⟨e, Bx.backJ 0 f0 rfl⟩
theorem c185 {x0 g0_ v0_0_ r} (hB0 : Bx W0 2 g0_ [v0_0_, vI x0.p]) (h0_0 : Rd W0 [0] [v0_0_] x0.b) (hm : Vm.spec_l30Line x0 = some r) : Q0 185 [ptr (bx g0_)] W0 fun Wf v => v = vS r.1 ∧ Bx Wf 2 g0_ [v0_0_, vI r.2] := by
 unfold Vm.spec_l30Line at hm
 refine CallR.of Tryz.func185 rfl rfl rfl rfl (sr (Ns rfl (sr (mp rfl (Lw.t rfl (T.bsS (α := Str) (xs := [([97] : Str), ([98] : Str), ([99] : Str), ([100] : Str), ([] : Str), ([120, 32, 121] : Str), ([115, 101, 101, 32, 97] : Str), ([115, 101, 101, 32, 100, 47, 101] : Str), ([101, 110, 100] : Str)]) 3 [] (W := W0) [vS ([97] : Str), vS ([98] : Str), vS ([99] : Str), vS ([100] : Str), vS ([] : Str), vS ([120, 32, 121] : Str), vS ([115, 101, 101, 32, 97] : Str), vS ([115, 101, 101, 32, 100, 47, 101] : Str), vS ([101, 110, 100] : Str)] (Each.cons ((rdS _)) (Each.cons ((rdS _)) (Each.cons ((rdS _)) (Each.cons ((rdS _)) (Each.cons ((rdS _)) (Each.cons ((rdS _)) (Each.cons ((rdS _)) (Each.cons ((rdS _)) (Each.cons ((rdS _)) Each.nil))))))))) rfl) ?_)))))
 rintro v1 _ ⟨W1, rfl, l1, o1⟩
 have a2 := l1.o
 have b3 := hB0.up l1
 refine cr hm (fun _ => p102 (K := [0, 3]) (c0 := 2) (x0 := x0) b3 ((h0_0.ul a2).sub (M := [0, 3]) rfl) (o1.rd.sub (M := [0, 3]) rfl) rfl) ?_
 rintro z5 _ W7 hm l7 ⟨rfl, f7_0⟩
 have a8 := a2.t l7
 refine Ns rfl ?_
 cases hm
 exact Cw.ret (ret1 rfl (Res.mk a8 ⟨rfl, f7_0⟩))
theorem p185 {x0 g0_ v0_0_ c0 r} (hB0 : Bx W c0 g0_ [v0_0_, vI x0.p]) (h0_0 : Rd W K [v0_0_] x0.b) (hJ : okJ K [c0] = true) (hm : Vm.spec_l30Line x0 = some r) : Q1 185 [ptr (bx g0_)] W [c0] fun W' v => v = vS r.1 ∧ Bx W' c0 g0_ [v0_0_, vI r.2] :=
 CallR.adJ (J := [c0]) (fun c => bif Nat.beq c 0 then 0 else bif Nat.beq c 2 then c0 else 0) (c185 (hB0.viewJ 0 hJ) (h0_0.view _) hm) fun _ _ ⟨e, f0⟩ => ⟨e, Bx.backJ 0 f0 rfl⟩
theorem c175 {x0 g0_ v0_0_ r} (hB0 : Bx W0 2 g0_ [v0_0_, vI x0.p]) (h0_0 : Rd W0 [0] [v0_0_] x0.b) (hm : Vm.spec_l30Text x0 = some r) : Q0 175 [ptr (bx g0_)] W0 fun Wf v => ∃ u0, v = u0 ∧ OwS Wf [31] [] [u0] r.1 ∧ Bx Wf 2 g0_ [v0_0_, vI r.2] := by
 unfold Vm.spec_l30Text at hm
 refine CallR.of Tryz.func175 rfl rfl rfl rfl (sr (Nv (.slice none 0 0) rfl (sr (Lw.t rfl (T.lit0 (α := Str) 3 []) ?_))))
 rintro v1 _ ⟨W1, rfl, l1, o1⟩
 have a2 := l1.o
 have b3 := hB0.up l1
 refine Nv v1 rfl (ssr (mp rfl (Lw.t rfl (T.bsS (α := Int) (xs := [0, 1, 3, 5, 8]) 4 [] (W := W1) [vI 0, vI 1, vI 3, vI 5, vI 8] (Each.cons ((rdI _)) (Each.cons ((rdI _)) (Each.cons ((rdI _)) (Each.cons ((rdI _)) (Each.cons ((rdI _)) Each.nil))))) rfl) ?_)))
 rintro v4 _ ⟨W4, rfl, l4, o4⟩
 have a5 := a2.n l4
 refine cr hm (fun _ => p136 (K := [0, 4]) (c0 := 2) (x0 := x0) (b3.up l4) ((h0_0.ul a5).sub (M := [0, 4]) rfl) (o4.rd.sub (M := [0, 4]) rfl) rfl) ?_
 rintro z9 _ W11 hm l11 ⟨rfl, f11_0⟩
 have a12 := a5.t l11
 refine Ni rfl (Cw.block ?_)
 obtain ⟨K22, hK22, hm⟩ := jn_e hm
 refine Cw.loop 9 17 [3, 4] (fun m l w => ∃ y15 y18 y19 v16 W21, CW.w W21 = w ∧ Le [2, 3] W11 W21 ∧ l = [v16, vI y18] ∧ Ow W21 3 [] [v16] y15 ∧ Bx W21 2 g0_ [v0_0_, vI y19] ∧ Vm.spec_l30Text_l1 x0 K22 m y15 y18 y19 = some r) _ ⟨([] : List Str), z9.1, z9.2, v1, W11, rfl, Le.refl _ _, rfl, ((o1.up l4).up l11), f11_0, hm⟩ ?_
 rintro (_ | m23) _ _ σ ⟨y15, y18, y19, v16, W21, rfl, l21, rfl, o17, b20, hm⟩
 ·cases hm
 unfold Vm.spec_l30Text_l1 at hm
 have a24 := a12.t l21
 refine ssr (mi rfl (Lw.gt rfl (nl (cn hm (fun hm => ?_) fun hm => ?_))))
 ·refine sk (Cw.seq (Cw.block (rg (mv v16 rfl (mp rfl (cr hm (fun _ => p185 (c0 := 2) (x0 := (Vm.l30Rd.mk x0.b y19)) b20 (h0_0.ul a24) rfl) ?_))))))
  rintro z28 _ W30 hm l30 ⟨rfl, f30_0⟩
  refine Lw.t rfl (T.bs 5 [vS z28.1] (cs := [vS z28.1]) rfl rfl (bsv rfl)) ?_
  rintro _ _ ⟨g34, W34, rfl, rfl, l34, b34⟩
  obtain ⟨q39, e40, hm⟩ := ob hm
  refine Lw.t rfl (T.app1S (α := Str) (K' := []) ((o17.up l30).up l34) b34 (rdS _) rfl rfl e40) ?_
  rintro v41 _ ⟨W41, rfl, l41, o41⟩
  exact Nv v41 rfl (rg (mi rfl (Lw.sub rfl (Ni rfl ((agm) ⟨q39, w64 (y18 - 1), z28.2, v41, W41, rfl, (((l21.j l30).j l34).j l41).w, rfl, o41, ((f30_0.up l34).up l41), hm⟩)))))
 ·refine Cw.exit ?_
  rw [hK22] at hm
  refine sr (mv v16 rfl (Nv v16 rfl ?_))
  obtain ⟨W46, ew46, l46, o46⟩ := o17.dyeO 31
  have a47 := a24.t l46
  cases hm
  rw [← ew46]
  exact Cw.ret (ret1 rfl (Res.mk a47 ⟨v16, rfl, o46.s, (b20.up l46)⟩))
theorem p175 {x0 g0_ v0_0_ k0 c0 r} (hB0 : Bx W c0 g0_ [v0_0_, vI x0.p]) (h0_0 : Rd W K [v0_0_] x0.b) (hJ : okJ K [c0] = true) (hm : Vm.spec_l30Text x0 = some r) : Q1 175 [ptr (bx g0_)] W [c0] fun W' v => ∃ u0, v = u0 ∧ Ow W' k0 [] [u0] r.1 ∧ Bx W' c0 g0_ [v0_0_, vI r.2] :=
 CallR.adJ (J := [c0]) (fun c => bif Nat.beq c 0 then 0 else bif Nat.beq c 2 then c0 else bif Nat.beq c 31 then k0 else 0) (c175 (hB0.viewJ 0 hJ) (h0_0.view _) hm) fun _ _ ⟨u0, e, f0, f1⟩ => ⟨u0, e, f0.one1.backN rfl, Bx.backJ 0 f1 rfl⟩
theorem c178 {x0 g0_ v0_0_ r} (hB0 : Bx W0 2 g0_ [v0_0_, vI x0.p]) (h0_0 : Rd W0 [0] [v0_0_] x0.b) (hm : Vm.spec_l30Op x0 = some r) : Q0 178 [ptr (bx g0_)] W0 fun Wf v => ∃ u0_6, v = .agg [vI r.1.Kind, vS r.1.Branch, vS r.1.Who, vS r.1.Path, vS r.1.To, vI r.1.At, u0_6].toArray ∧ OwS Wf [31] [] [u0_6] r.1.Text ∧ Bx Wf 2 g0_ [v0_0_, vI r.2] := by
 unfold Vm.spec_l30Op at hm
 refine CallR.of Tryz.func178 rfl rfl rfl rfl (sr (al 3 [vI 0, vS ([] : Str), vS ([] : Str), vS ([] : Str), vS ([] : Str), vI 0, .slice none 0 0] fun g1 W1 l1 b1 => ?_))
 have a2 := l1.o
 have b3 := hB0.up l1
 refine nl (sr (mp rfl (cr hm (fun _ => p156 (c0 := 2) (x0 := x0) b3 (h0_0.ul a2) rfl) ?_)))
 rintro z5 _ W7 hm l7 ⟨rfl, f7_0⟩
 have a8 := a2.t l7
 refine mp rfl (Lw.t rfl (T.bsS (α := Str) (xs := [([97, 110, 110] : Str), ([98, 111, 98] : Str), ([99, 105, 100] : Str)]) 4 [] (W := W7) [vS ([97, 110, 110] : Str), vS ([98, 111, 98] : Str), vS ([99, 105, 100] : Str)] (Each.cons ((rdS _)) (Each.cons ((rdS _)) (Each.cons ((rdS _)) Each.nil))) rfl) ?_)
 rintro v10 _ ⟨W10, rfl, l10, o10⟩
 have a11 := a8.n l10
 refine cr hm (fun _ => p102 (K := [0, 4]) (c0 := 2) (x0 := (Vm.l30Rd.mk x0.b z5.2)) (f7_0.up l10) ((h0_0.ul a11).sub (M := [0, 4]) rfl) (o10.rd.sub (M := [0, 4]) rfl) rfl) ?_
 rintro z15 _ W17 hm l17 ⟨rfl, f17_0⟩
 have a18 := a11.t l17
 refine Lw.r rfl (R.bd (zs := [vI 0, vS ([] : Str), vS ([] : Str), vS ([] : Str), vS ([] : Str), vI 0, .slice none 0 0]) (cs := [vI 0, vS z5.1, vS z15.1, vS ([] : Str), vS ([] : Str), vI 0, .slice none 0 0]) [(1, vS z5.1), (2, vS z15.1)] rfl rfl rfl (bp_cons rfl rfl (bp_cons rfl rfl bp_nil))) (al 5 [vI 0, vS ([] : Str), vS ([] : Str), vS ([] : Str), vS ([] : Str), vI 0, .slice none 0 0] fun g21 W21 l21 b21 => ?_)
 have a22 := a18.n l21
 refine sta b21 (oc_cons rfl (oc_cons rfl (oc_cons rfl (oc_cons rfl (oc_cons rfl (oc_cons rfl (oc_cons rfl oc_nil))))))) fun W26 l26 b26 => ?_
 have a27 := a22.t l26
 refine nl ?_
 obtain ⟨K44, hK44, hm⟩ := jn_e hm
 refine Cw.join 10 61 [] (fun l w => ∃ y31 y33 y34 y35 y36 y37 y38 y39 v40 W43, CW.w W43 = w ∧ Le [2, 5, 8] W26 W43 ∧ l = [] ∧ Bx W43 2 g0_ [v0_0_, vI y31] ∧ Ow W43 6 [] [v40] y39 ∧ Bx W43 5 g21 [vI y33, vS y34, vS y35, vS y36, vS y37, vI y38, v40] ∧ K44 y31 y33 y34 y35 y36 y37 y38 y39 = some r) ?_ ?_
 ·rintro _ _ σ ⟨y31, y33, y34, y35, y36, y37, y38, y39, v40, W43, rfl, l43, rfl, b32, o41, b42, hm⟩
  rw [hK44] at hm
  have a45 := a27.t l43
  refine sr (la b42 (sta ((((((b1.up l7).up l10).up l17).up l21).up l26).up l43) (oc_cons rfl (oc_cons rfl (oc_cons rfl (oc_cons rfl (oc_cons rfl (oc_cons rfl (oc_cons o41.oc oc_nil))))))) fun W48 l48 b48 => ?_))
  have a49 := a45.t l48
  refine nl ?_
  obtain ⟨W54, ew54, l54, o54⟩ := (o41.up l48).dyeO 31
  have a55 := a49.t l54
  cases hm
  rw [← ew54]
  exact Cw.ret (retA1 rfl (b48.up l54) (Res.mk a55 ⟨v40, rfl, o54.s, ((b32.up l48).up l54)⟩))
 ·refine sr (mp rfl (cr hm (fun _ => p85 (c0 := 2) (x0 := (Vm.l30Rd.mk x0.b z15.2)) ((f17_0.up l21).up l26) (h0_0.ul a27) rfl) ?_))
  rintro z61 _ W63 hm l63 ⟨rfl, f63_0⟩
  have a64 := a27.t l63
  have b67 := b26.up l63
  refine nl (Cw.block (sr (Lw.eq rfl (Nb rfl (cn hm (fun hm => ?_) fun hm => ?_)))))
  ·refine sr (Lw.fa rfl (Lw.u (T.st (j := 0) (v := vI 2) b67 rfl rfl rfl rfl rfl) ?_))
   rintro _ _ ⟨W69, rfl, l69, b69⟩
   have a70 := a64.t l69
   refine nl (rg (mp rfl (cr hm (fun _ => p86 (c0 := 2) (x0 := (Vm.l30Rd.mk x0.b z61.2)) (f63_0.up l69) (h0_0.ul a70) rfl) ?_)))
   rintro z75 _ W77 hm l77 ⟨rfl, f77_0⟩
   refine Lw.fa rfl (Lw.u (T.st (j := 3) (v := vS z75.1) (b69.up l77) rfl rfl rfl rfl rfl) ?_)
   rintro _ _ ⟨W82, rfl, l82, b82⟩
   exact nl ((ag) ⟨z75.2, 2, z5.1, z15.1, z75.1, ([] : Str), 0, ([] : List Str), .slice none 0 0, W82, rfl, (((l63.j l69).j l77).j l82).w, rfl, (f77_0.up l82), owN 6 [], b82, hm⟩)
  ·refine sr (Lw.eq rfl (Nb rfl (cn hm (fun hm => ?_) fun hm => ?_)))
   ·refine sr (Lw.fa rfl (Lw.u (T.st (j := 0) (v := vI 3) b67 rfl rfl rfl rfl rfl) ?_))
    rintro _ _ ⟨W88, rfl, l88, b88⟩
    have a89 := a64.t l88
    refine nl (sr (mp rfl (cr hm (fun _ => p86 (c0 := 2) (x0 := (Vm.l30Rd.mk x0.b z61.2)) (f63_0.up l88) (h0_0.ul a89) rfl) ?_)))
    rintro z94 _ W96 hm l96 ⟨rfl, f96_0⟩
    have a97 := a89.t l96
    refine Lw.fa rfl (Lw.u (T.st (j := 3) (v := vS z94.1) (b88.up l96) rfl rfl rfl rfl rfl) ?_)
    rintro _ _ ⟨W101, rfl, l101, b101⟩
    have a102 := a97.t l101
    refine nl (rg (mp rfl (cr hm (fun _ => p86 (c0 := 2) (x0 := (Vm.l30Rd.mk x0.b z94.2)) (f96_0.up l101) (h0_0.ul a102) rfl) ?_)))
    rintro z107 _ W109 hm l109 ⟨rfl, f109_0⟩
    refine Lw.fa rfl (Lw.u (T.st (j := 4) (v := vS z107.1) (b101.up l109) rfl rfl rfl rfl rfl) ?_)
    rintro _ _ ⟨W114, rfl, l114, b114⟩
    exact nl ((ag) ⟨z107.2, 3, z5.1, z15.1, z94.1, z107.1, 0, ([] : List Str), .slice none 0 0, W114, rfl, (((((l63.j l88).j l96).j l101).j l109).j l114).w, rfl, (f109_0.up l114), owN 6 [], b114, hm⟩)
   ·obtain ⟨K121, hK121, hm⟩ := jn_e hm
    refine Cw.join 34 36 [34] (fun l w => ∃ y119 W120, CW.w W120 = w ∧ Le [] W63 W120 ∧ l = [vB y119] ∧ K121 y119 = some r) ?_ ?_
    ·rintro _ _ σ ⟨y119, W120, rfl, l120, rfl, hm⟩
     rw [hK121] at hm
     have a122 := a64.n l120
     refine cn hm (fun hm => ?_) fun hm => ?_
     ·refine sr (Lw.fa rfl (Lw.u (T.st (j := 0) (v := vI 4) (b67.up l120) rfl rfl rfl rfl rfl) ?_))
      rintro _ _ ⟨W128, rfl, l128, b128⟩
      have a129 := a122.t l128
      refine nl (rg (mp rfl (Lw.t rfl (T.bsS (α := Str) (xs := [([115, 105, 100, 101] : Str), ([100, 101, 118] : Str), ([111, 108, 100] : Str)]) 7 [] (W := W128) [vS ([115, 105, 100, 101] : Str), vS ([100, 101, 118] : Str), vS ([111, 108, 100] : Str)] (Each.cons ((rdS _)) (Each.cons ((rdS _)) (Each.cons ((rdS _)) Each.nil))) rfl) ?_)))
      rintro v133 _ ⟨W133, rfl, l133, o133⟩
      have a134 := a129.n l133
      refine cr hm (fun _ => p102 (K := [0, 7]) (c0 := 2) (x0 := (Vm.l30Rd.mk x0.b z61.2)) (((f63_0.up l120).up l128).up l133) ((h0_0.ul a134).sub (M := [0, 7]) rfl) (o133.rd.sub (M := [0, 7]) rfl) rfl) ?_
      rintro z140 _ W142 hm l142 ⟨rfl, f142_0⟩
      refine Lw.fa rfl (Lw.u (T.st (j := 4) (v := vS z140.1) ((b128.up l133).up l142) rfl rfl rfl rfl rfl) ?_)
      rintro _ _ ⟨W148, rfl, l148, b148⟩
      exact nl ((ag) ⟨z140.2, 4, z5.1, z15.1, ([] : Str), z140.1, 0, ([] : List Str), .slice none 0 0, W148, rfl, (((((l63.j l120).j l128).j l133).j l142).j l148).w, rfl, (f142_0.up l148), owN 6 [], b148, hm⟩)
     ·obtain ⟨K156, hK156, hm⟩ := jn_e hm
      refine Cw.join 42 45 [42] (fun l w => ∃ y154 W155, CW.w W155 = w ∧ Le [] W120 W155 ∧ l = [vB y154] ∧ K156 y154 = some r) ?_ ?_
      ·rintro _ _ σ ⟨y154, W155, rfl, l155, rfl, hm⟩
       rw [hK156] at hm
       have a157 := a122.n l155
       have b159 := (f63_0.up l120).up l155
       have b161 := (b67.up l120).up l155
       refine cn hm (fun hm => ?_) fun hm => ?_
       ·refine sr (Lw.fa rfl (Lw.u (T.st (j := 0) (v := vI 5) b161 rfl rfl rfl rfl rfl) ?_))
        rintro _ _ ⟨W163, rfl, l163, b163⟩
        have a164 := a157.t l163
        refine nl (rg (mp rfl (cr hm (fun _ => p156 (c0 := 2) (x0 := (Vm.l30Rd.mk x0.b z61.2)) (b159.up l163) (h0_0.ul a164) rfl) ?_)))
        rintro z169 _ W171 hm l171 ⟨rfl, f171_0⟩
        refine Lw.fa rfl (Lw.u (T.st (j := 4) (v := vS z169.1) (b163.up l171) rfl rfl rfl rfl rfl) ?_)
        rintro _ _ ⟨W176, rfl, l176, b176⟩
        exact nl ((ag) ⟨z169.2, 5, z5.1, z15.1, ([] : Str), z169.1, 0, ([] : List Str), .slice none 0 0, W176, rfl, (((((l63.j l120).j l155).j l163).j l171).j l176).w, rfl, (f171_0.up l176), owN 6 [], b176, hm⟩)
       ·refine sr (Lw.eq rfl (Nb rfl (cn hm (fun hm => ?_) fun hm => ?_)))
        ·refine sr (Lw.fa rfl (Lw.u (T.st (j := 0) (v := vI 6) b161 rfl rfl rfl rfl rfl) ?_))
         rintro _ _ ⟨W182, rfl, l182, b182⟩
         have a183 := a157.t l182
         refine nl (rg (mp rfl (cr hm (fun _ => p85 (c0 := 2) (x0 := (Vm.l30Rd.mk x0.b z61.2)) (b159.up l182) (h0_0.ul a183) rfl) ?_)))
         rintro z188 _ W190 hm l190 ⟨rfl, f190_0⟩
         refine Lw.fa rfl (Lw.u (T.st (j := 5) (v := vI z188.1) (b182.up l190) rfl rfl rfl rfl rfl) ?_)
         rintro _ _ ⟨W195, rfl, l195, b195⟩
         exact nl ((ag) ⟨z188.2, 6, z5.1, z15.1, ([] : Str), ([] : Str), z188.1, ([] : List Str), .slice none 0 0, W195, rfl, (((((l63.j l120).j l155).j l182).j l190).j l195).w, rfl, (f190_0.up l195), owN 6 [], b195, hm⟩)
        ·refine sr (Lw.eq rfl (Nb rfl (cn hm (fun hm => ?_) fun hm => ?_)))
         ·refine sr (Lw.fa rfl (Lw.u (T.st (j := 0) (v := vI 7) b161 rfl rfl rfl rfl rfl) ?_))
          rintro _ _ ⟨W201, rfl, l201, b201⟩
          have a202 := a157.t l201
          refine nl (rg (mp rfl (cr hm (fun _ => p85 (c0 := 2) (x0 := (Vm.l30Rd.mk x0.b z61.2)) (b159.up l201) (h0_0.ul a202) rfl) ?_)))
          rintro z207 _ W209 hm l209 ⟨rfl, f209_0⟩
          refine Lw.fa rfl (Lw.u (T.st (j := 5) (v := vI z207.1) (b201.up l209) rfl rfl rfl rfl rfl) ?_)
          rintro _ _ ⟨W214, rfl, l214, b214⟩
          exact nl ((ag) ⟨z207.2, 7, z5.1, z15.1, ([] : Str), ([] : Str), z207.1, ([] : List Str), .slice none 0 0, W214, rfl, (((((l63.j l120).j l155).j l201).j l209).j l214).w, rfl, (f209_0.up l214), owN 6 [], b214, hm⟩)
         ·refine sr (Lw.fa rfl (Lw.u (T.st (j := 0) (v := vI 1) b161 rfl rfl rfl rfl rfl) ?_))
          rintro _ _ ⟨W219, rfl, l219, b219⟩
          have a220 := a157.t l219
          refine nl (sr (mp rfl (cr hm (fun _ => p86 (c0 := 2) (x0 := (Vm.l30Rd.mk x0.b z61.2)) (b159.up l219) (h0_0.ul a220) rfl) ?_)))
          rintro z225 _ W227 hm l227 ⟨rfl, f227_0⟩
          have a228 := a220.t l227
          refine Lw.fa rfl (Lw.u (T.st (j := 3) (v := vS z225.1) (b219.up l227) rfl rfl rfl rfl rfl) ?_)
          rintro _ _ ⟨W232, rfl, l232, b232⟩
          have a233 := a228.t l232
          refine nl (rg (mp rfl (cr hm (fun _ => p175 (k0 := 8) (c0 := 2) (x0 := (Vm.l30Rd.mk x0.b z225.2)) (f227_0.up l232) (h0_0.ul a233) rfl) ?_)))
          rintro z238 v0_240 W240 hm l240 ⟨_, rfl, f240_0, f240_1⟩
          refine Lw.fa rfl (Lw.u (T.st (j := 6) (v := v0_240) (b232.up l240) rfl rfl f240_0.oc rfl rfl) ?_)
          rintro _ _ ⟨W245, rfl, l245, b245⟩
          refine nl ?_
          obtain ⟨W251, ew251, l251, o251⟩ := (f240_0.up l245).dyeO 6
          exact (ag) ⟨z238.2, 1, z5.1, z15.1, z225.1, ([] : Str), 0, z238.1, v0_240, W251, ew251, ((((((((l63.j l120).j l155).j l219).j l227).j l232).j l240).j l245).j l251).w, rfl, ((f240_1.up l245).up l251), o251, (b245.up l251), hm⟩
      ·refine sr (Lw.eq rfl (Nb rfl (cn hm (fun hm => ?_) fun hm => ?_)))
       ·exact sk ((ag) ⟨((z61.1 : Int) == (4 : Int)), W120, rfl, Le.refl _ _, rfl, hm⟩)
       ·refine sr (Lw.eq rfl (Nb rfl (cn hm (fun hm => ?_) fun hm => ?_)))
        ·exact sk ((ag) ⟨((z61.1 : Int) == (5 : Int)), W120, rfl, Le.refl _ _, rfl, hm⟩)
        ·exact rg (Lw.eq rfl (Nb rfl ((ag) ⟨((z61.1 : Int) == (6 : Int)), W120, rfl, Le.refl _ _, rfl, hm⟩)))
    ·refine sr (Lw.eq rfl (Nb rfl (cn hm (fun hm => ?_) fun hm => ?_)))
     ·exact sk ((ag) ⟨((z61.1 : Int) == (2 : Int)), W63, rfl, Le.refl _ _, rfl, hm⟩)
     ·exact rg (Lw.eq rfl (Nb rfl ((ag) ⟨((z61.1 : Int) == (3 : Int)), W63, rfl, Le.refl _ _, rfl, hm⟩)))
theorem p178 {x0 g0_ v0_0_ k0 c0 r} (hB0 : Bx W c0 g0_ [v0_0_, vI x0.p]) (h0_0 : Rd W K [v0_0_] x0.b) (hJ : okJ K [c0] = true) (hm : Vm.spec_l30Op x0 = some r) : Q1 178 [ptr (bx g0_)] W [c0] fun W' v => ∃ u0_6, v = .agg [vI r.1.Kind, vS r.1.Branch, vS r.1.Who, vS r.1.Path, vS r.1.To, vI r.1.At, u0_6].toArray ∧ Ow W' k0 [] [u0_6] r.1.Text ∧ Bx W' c0 g0_ [v0_0_, vI r.2] :=
 CallR.adJ (J := [c0]) (fun c => bif Nat.beq c 0 then 0 else bif Nat.beq c 2 then c0 else bif Nat.beq c 31 then k0 else 0) (c178 (hB0.viewJ 0 hJ) (h0_0.view _) hm) fun _ _ ⟨u0_6, e, f0, f1⟩ => ⟨u0_6, e, f0.one1.backN rfl, Bx.backJ 0 f1 rfl⟩
theorem c162 {x0 g0_ v0_0_ r} (hB0 : Bx W0 2 g0_ [v0_0_, vI x0.p]) (h0_0 : Rd W0 [0] [v0_0_] x0.b) (hm : Vm.spec_l30Ops x0 = some r) : Q0 162 [ptr (bx g0_)] W0 fun Wf v => ∃ u0, v = u0 ∧ OwS Wf [31] [] [u0] r.1 ∧ Bx Wf 2 g0_ [v0_0_, vI r.2] := by
 unfold Vm.spec_l30Ops at hm
 refine CallR.of Tryz.func162 rfl rfl rfl rfl (sr (Nv (.slice none 0 0) rfl (sr (Lw.t rfl (T.lit0 (α := Vm.Op) 3 []) ?_))))
 rintro v1 _ ⟨W1, rfl, l1, o1⟩
 have a2 := l1.o
 have b3 := hB0.up l1
 refine Nv v1 rfl (ssr (mp rfl (Lw.t rfl (T.bsS (α := Int) (xs := [0, 3, 8, 14, 20]) 4 [] (W := W1) [vI 0, vI 3, vI 8, vI 14, vI 20] (Each.cons ((rdI _)) (Each.cons ((rdI _)) (Each.cons ((rdI _)) (Each.cons ((rdI _)) (Each.cons ((rdI _)) Each.nil))))) rfl) ?_)))
 rintro v4 _ ⟨W4, rfl, l4, o4⟩
 have a5 := a2.n l4
 refine cr hm (fun _ => p136 (K := [0, 4]) (c0 := 2) (x0 := x0) (b3.up l4) ((h0_0.ul a5).sub (M := [0, 4]) rfl) (o4.rd.sub (M := [0, 4]) rfl) rfl) ?_
 rintro z9 _ W11 hm l11 ⟨rfl, f11_0⟩
 have a12 := a5.t l11
 refine Ni rfl (Cw.block ?_)
 obtain ⟨K22, hK22, hm⟩ := jn_e hm
 refine Cw.loop 9 17 [3, 4] (fun m l w => ∃ y15 y18 y19 v16 W21, CW.w W21 = w ∧ Le [2, 3, 5] W11 W21 ∧ l = [v16, vI y18] ∧ Ow W21 3 [] [v16] y15 ∧ Bx W21 2 g0_ [v0_0_, vI y19] ∧ Vm.spec_l30Ops_l1 x0 K22 m y15 y18 y19 = some r) _ ⟨([] : List Vm.Op), z9.1, z9.2, v1, W11, rfl, Le.refl _ _, rfl, ((o1.up l4).up l11), f11_0, hm⟩ ?_
 rintro (_ | m23) _ _ σ ⟨y15, y18, y19, v16, W21, rfl, l21, rfl, o17, b20, hm⟩
 ·cases hm
 unfold Vm.spec_l30Ops_l1 at hm
 have a24 := a12.t l21
 refine ssr (mi rfl (Lw.gt rfl (nl (cn hm (fun hm => ?_) fun hm => ?_))))
 ·refine sk (Cw.seq (Cw.block (rg (mv v16 rfl (mp rfl (cr hm (fun _ => p178 (k0 := 5) (c0 := 2) (x0 := (Vm.l30Rd.mk x0.b y19)) b20 (h0_0.ul a24) rfl) ?_))))))
  rintro z28 _ W30 hm l30 ⟨v0_6_30, rfl, f30_0, f30_1⟩
  refine Lw.t rfl (T.bs 6 [.agg [vI z28.1.Kind, vS z28.1.Branch, vS z28.1.Who, vS z28.1.Path, vS z28.1.To, vI z28.1.At, v0_6_30].toArray] (cs := [vI z28.1.Kind, vS z28.1.Branch, vS z28.1.Who, vS z28.1.Path, vS z28.1.To, vI z28.1.At, v0_6_30]) rfl rfl (bsA rfl)) ?_
  rintro _ _ ⟨g34, W34, rfl, rfl, l34, b34⟩
  obtain ⟨q40, e41, hm⟩ := ob hm
  refine Lw.t rfl (T.app1 (α := Vm.Op) (J := [5]) (K' := []) ((o17.up l30).up l34) b34 (Op.own z28.1.Kind z28.1.Branch z28.1.Who z28.1.Path z28.1.To z28.1.At z28.1.Text (f30_0.up l34).s) rfl rfl e41) ?_
  rintro v42 _ ⟨W42, rfl, l42, o42⟩
  exact Nv v42 rfl (rg (mi rfl (Lw.sub rfl (Ni rfl ((agm) ⟨q40, w64 (y18 - 1), z28.2, v42, W42, rfl, (((l21.j l30).j l34).j l42).w, rfl, o42, ((f30_1.up l34).up l42), hm⟩)))))
 ·refine Cw.exit ?_
  rw [hK22] at hm
  refine sr (mv v16 rfl (Nv v16 rfl ?_))
  obtain ⟨W47, ew47, l47, o47⟩ := o17.dyeO 31
  have a48 := a24.t l47
  cases hm
  rw [← ew47]
  exact Cw.ret (ret1 rfl (Res.mk a48 ⟨v16, rfl, o47.s, (b20.up l47)⟩))
theorem p162 {x0 g0_ v0_0_ k0 c0 r} (hB0 : Bx W c0 g0_ [v0_0_, vI x0.p]) (h0_0 : Rd W K [v0_0_] x0.b) (hJ : okJ K [c0] = true) (hm : Vm.spec_l30Ops x0 = some r) : Q1 162 [ptr (bx g0_)] W [c0] fun W' v => ∃ u0, v = u0 ∧ Ow W' k0 [] [u0] r.1 ∧ Bx W' c0 g0_ [v0_0_, vI r.2] :=
 CallR.adJ (J := [c0]) (fun c => bif Nat.beq c 0 then 0 else bif Nat.beq c 2 then c0 else bif Nat.beq c 31 then k0 else 0) (c162 (hB0.viewJ 0 hJ) (h0_0.view _) hm) fun _ _ ⟨u0, e, f0, f1⟩ => ⟨u0, e, f0.one1.backN rfl, Bx.backJ 0 f1 rfl⟩
theorem c84 {x0 x1 x2 r} (hm : Vm.spec_l1In x0 x1 x2 = some r) : Q0 84 [vI x0, vI x1, vI x2] W0 fun Wf v => v = vB r := by
 unfold Vm.spec_l1In at hm
 refine CallR.of Tryz.func84 rfl rfl rfl rfl (sr (Nb rfl ?_))
 obtain ⟨K3, hK3, hm⟩ := jn_e hm
 refine Cw.join 7 14 [6] (fun l w => ∃ y1 W2, CW.w W2 = w ∧ Le [] W0 W2 ∧ l = [vB y1] ∧ K3 y1 = some r) ?_ ?_
 ·rintro _ _ σ ⟨y1, W2, rfl, l2, rfl, hm⟩
  rw [hK3] at hm
  have a4 := l2.o
  exact .ret (rt hm a4)
 ·refine rg (mi rfl (mi rfl (Lw.ge rfl (mb rfl (bs hm (fun hc5 hm => ?_) fun hc5 hm => ?_)))))
  ·exact wak 3 hc5 (mi rfl (mi rfl (Lw.le rfl (Pb hc5 rfl (Nb rfl ((ag) ⟨decide ((x0 : Int) ≤ (x2 : Int)), W0, rfl, Le.refl _ _, rfl, hm⟩))))))
  ·exact psk 3 hc5 rfl (Pb hc5 rfl (Nb rfl ((ag) ⟨false, W0, rfl, Le.refl _ _, rfl, hm⟩)))
theorem p84 {x0 x1 x2 r} (hm : Vm.spec_l1In x0 x1 x2 = some r) : Q1 84 [vI x0, vI x1, vI x2] W [] fun W' v => v = vB r :=
 (c84 (W0 := W.view [] [])  hm).ad (fk 0) fun _ _ e => e
theorem c138 {x0 r} (hm : Vm.spec_l4Name x0 = some r) : Q0 138 [vS x0] W0 fun Wf v => v = vB r := by
 unfold Vm.spec_l4Name at hm
 refine CallR.of Tryz.func138 rfl rfl rfl rfl (sr (Nb rfl (ssr (Ni rfl (Cw.block ?_)))))
 obtain ⟨K4, hK4, hm⟩ := jn_e hm
 refine Cw.loop 4 31 [2, 3] (fun m l w => ∃ y1 y2 W3, CW.w W3 = w ∧ Le [] W0 W3 ∧ l = [vB y1, vI y2] ∧ Vm.spec_l4Name_l1 x0 K4 m y1 y2 = some r) _ ⟨false, 0, W0, rfl, Le.refl _ _, rfl, hm⟩ ?_
 rintro (_ | m5) _ _ σ ⟨y1, y2, W3, rfl, l3, rfl, hm⟩
 ·cases hm
 unfold Vm.spec_l4Name_l1 at hm
 have a6 := l3.o
 refine ssr (mi rfl (ms rfl (Lw.r rfl (R.lenS rfl) (Lw.lt rfl (nl (cn hm (fun hm => ?_) fun hm => ?_))))))
 ·refine sk (Cw.seq (Cw.block ?_))
  obtain ⟨K10, hK10, hm⟩ := jn_e hm
  refine Cw.join 10 31 [31] (fun l w => ∃ y8 W9, CW.w W9 = w ∧ Le [] W3 W9 ∧ l = [vB y8] ∧ K10 y8 = some r) ?_ ?_
  ·rintro _ _ σ ⟨y8, W9, rfl, l9, rfl, hm⟩
   rw [hK10] at hm
   have a11 := a6.n l9
   refine cn hm (fun hm => ?_) fun hm => ?_
   ·exact sr (Nb rfl (.ret (rt hm a11)))
   ·exact sk (rg (mi rfl (Lw.add rfl (Ni rfl ((agm) ⟨y1, w64 (y2 + 1), W9, rfl, (l3.j l9).w, rfl, hm⟩)))))
  ·refine rg (ms rfl (mi rfl ?_))
   obtain ⟨u13, e14, hm⟩ := ob hm
   refine Lw.r rfl (R.chm e14 rfl rfl) (Lw.lt rfl (mb rfl (bs hm (fun hc15 hm => ?_) fun hc15 hm => ?_)))
   ·refine psk 4 hc15 rfl (Pb hc15 rfl (mb rfl (wak 5 rfl (ms rfl (mi rfl ?_)))))
    obtain ⟨u16, e17, hm⟩ := ob hm
    refine Lw.r rfl (R.chm e17 rfl rfl) (Lw.lt rfl (mb rfl (bs hm (fun hc18 hm => ?_) fun hc18 hm => ?_)))
    ·exact psk 4 hc18 rfl (wak 1 rfl (Pb hc18 rfl (Pb rfl rfl (nl ((ag) ⟨true, W3, rfl, Le.refl _ _, rfl, hm⟩)))))
    ·refine wak 4 hc18 (ms rfl (mi rfl ?_))
     obtain ⟨u19, e20, hm⟩ := ob hm
     exact Lw.r rfl (R.chm e20 rfl rfl) (Lw.gt rfl (wak 1 rfl (Pb hc18 rfl (Pb rfl rfl (nl ((ag) ⟨decide ((57 : Int) < ((UInt8.toNat u19 : Int) : Int)), W3, rfl, Le.refl _ _, rfl, hm⟩))))))
   ·refine wak 4 hc15 (ms rfl (mi rfl ?_))
    obtain ⟨u21, e22, hm⟩ := ob hm
    refine Lw.r rfl (R.chm e22 rfl rfl) (Lw.gt rfl (Pb hc15 rfl (mb rfl (bs hm (fun hc23 hm => ?_) fun hc23 hm => ?_))))
    ·refine wak 5 hc23 (ms rfl (mi rfl ?_))
     obtain ⟨u24, e25, hm⟩ := ob hm
     refine Lw.r rfl (R.chm e25 rfl rfl) (Lw.lt rfl (mb rfl (bs hm (fun hc26 hm => ?_) fun hc26 hm => ?_)))
     ·exact psk 4 hc26 rfl (wak 1 hc23 (Pb hc26 rfl (Pb hc23 rfl (nl ((ag) ⟨true, W3, rfl, Le.refl _ _, rfl, hm⟩)))))
     ·refine wak 4 hc26 (ms rfl (mi rfl ?_))
      obtain ⟨u27, e28, hm⟩ := ob hm
      exact Lw.r rfl (R.chm e28 rfl rfl) (Lw.gt rfl (wak 1 hc23 (Pb hc26 rfl (Pb hc23 rfl (nl ((ag) ⟨decide ((57 : Int) < ((UInt8.toNat u27 : Int) : Int)), W3, rfl, Le.refl _ _, rfl, hm⟩))))))
    ·exact psk 5 hc23 rfl (puk 4 rfl (psk 1 hc23 rfl (Pb hc23 rfl (nl ((ag) ⟨false, W3, rfl, Le.refl _ _, rfl, hm⟩)))))
 ·refine Cw.exit ?_
  rw [hK4] at hm
  refine sr (ms rfl (Lw.r rfl (R.lenS rfl) (ca hm (fun _ => p84) fun z29 W31 hm l31 => ?_)))
  have a32 := a6.n l31
  exact Nb rfl (.ret (rt hm a32))
theorem p138 {x0 r} (hm : Vm.spec_l4Name x0 = some r) : Q1 138 [vS x0] W [] fun W' v => v = vB r :=
 (c138 (W0 := W.view [] [])  hm).ad (fk 0) fun _ _ e => e
theorem c186 {x0 v0_6_ x1 x2 x3 x4 r} (h0 : Rd W0 [0] [vI x0.Kind, vS x0.Branch, vS x0.Who, vS x0.Path, vS x0.To, vI x0.At, v0_6_] x0) (hm : Vm.spec_l19Bare x0 x1 x2 x3 x4 = some r) : Q0 186 [.agg [vI x0.Kind, vS x0.Branch, vS x0.Who, vS x0.Path, vS x0.To, vI x0.At, v0_6_].toArray, vB x1, vB x2, vB x3, vB x4] W0 fun Wf v => v = vB r := by
 unfold Vm.spec_l19Bare at hm
 obtain ⟨w0_0, he0, h0_6⟩ := Op.split h0
 simp only [List.cons.injEq, and_true, true_and] at he0
 obtain rfl := he0
 refine CallR.of Tryz.func186 rfl rfl rfl rfl (sr (bo 2 rfl fun g1 W1 l1 b1 => ?_))
 have a2 := l1.o
 refine Nb rfl ?_
 obtain ⟨K5, hK5, hm⟩ := jn_e hm
 refine Cw.join 11 41 [10] (fun l w => ∃ y3 W4, CW.w W4 = w ∧ Le [] W1 W4 ∧ l = [vB y3] ∧ K5 y3 = some r) ?_ ?_
 ·rintro _ _ σ ⟨y3, W4, rfl, l4, rfl, hm⟩
  rw [hK5] at hm
  have a6 := a2.n l4
  exact .ret (rt hm a6)
 ·refine rg (mb rfl (mb rfl (bs hm (fun hc8 hm => ?_) fun hc8 hm => ?_)))
  ·refine psk 3 hc8 rfl (Pb hc8 rfl (mb rfl (wak 2 rfl (mb rfl (mb rfl (bs hm (fun hc9 hm => ?_) fun hc9 hm => ?_))))))
   ·refine psk 3 hc9 rfl (wak 1 rfl (Pb hc9 rfl (Pb rfl rfl (mb rfl (wak 2 rfl (mb rfl (mb rfl (bs hm (fun hc10 hm => ?_) fun hc10 hm => ?_))))))))
    ·refine psk 3 hc10 rfl (wak 1 rfl (Pb hc10 rfl (Pb rfl rfl (mb rfl (wak 2 rfl (mb rfl (mb rfl (bs hm (fun hc11 hm => ?_) fun hc11 hm => ?_))))))))
     ·exact psk 4 hc11 rfl (wak 1 rfl (Pb hc11 rfl (Pb rfl rfl (Nb rfl ((ag) ⟨true, W1, rfl, Le.refl _ _, rfl, hm⟩)))))
     ·exact wak 4 hc11 (fl b1 rfl (Lw.ln x0.Text (h0_6.ul a2) rfl (Lw.eq rfl (wak 1 rfl (Pb hc11 rfl (Pb rfl rfl (Nb rfl ((ag) ⟨(((x0.Text.length : Int) : Int) == (0 : Int)), W1, rfl, Le.refl _ _, rfl, hm⟩))))))))
    ·refine wak 3 hc10 (fl b1 rfl (Lw.eq rfl (wak 1 rfl (Pb hc10 rfl (Pb rfl rfl (mb rfl (bs hm (fun hc13 hm => ?_) fun hc13 hm => ?_)))))))
     ·refine wak 2 hc13 (mb rfl (mb rfl (bs hm (fun hc14 hm => ?_) fun hc14 hm => ?_)))
      ·exact psk 4 hc14 rfl (wak 1 hc13 (Pb hc14 rfl (Pb hc13 rfl (Nb rfl ((ag) ⟨true, W1, rfl, Le.refl _ _, rfl, hm⟩)))))
      ·exact wak 4 hc14 (fl b1 rfl (Lw.ln x0.Text (h0_6.ul a2) rfl (Lw.eq rfl (wak 1 hc13 (Pb hc14 rfl (Pb hc13 rfl (Nb rfl ((ag) ⟨(((x0.Text.length : Int) : Int) == (0 : Int)), W1, rfl, Le.refl _ _, rfl, hm⟩))))))))
     ·exact psk 2 hc13 rfl (puk 4 rfl (psk 1 hc13 rfl (Pb hc13 rfl (Nb rfl ((ag) ⟨false, W1, rfl, Le.refl _ _, rfl, hm⟩)))))
   ·refine wak 3 hc9 (fl b1 rfl (Lw.seq rfl (wak 1 rfl (Pb hc9 rfl (Pb rfl rfl (mb rfl (bs hm (fun hc16 hm => ?_) fun hc16 hm => ?_)))))))
    ·refine wak 2 hc16 (mb rfl (mb rfl (bs hm (fun hc17 hm => ?_) fun hc17 hm => ?_)))
     ·refine psk 3 hc17 rfl (wak 1 hc16 (Pb hc17 rfl (Pb hc16 rfl (mb rfl (wak 2 rfl (mb rfl (mb rfl (bs hm (fun hc18 hm => ?_) fun hc18 hm => ?_))))))))
      ·exact psk 4 hc18 rfl (wak 1 rfl (Pb hc18 rfl (Pb rfl rfl (Nb rfl ((ag) ⟨true, W1, rfl, Le.refl _ _, rfl, hm⟩)))))
      ·exact wak 4 hc18 (fl b1 rfl (Lw.ln x0.Text (h0_6.ul a2) rfl (Lw.eq rfl (wak 1 rfl (Pb hc18 rfl (Pb rfl rfl (Nb rfl ((ag) ⟨(((x0.Text.length : Int) : Int) == (0 : Int)), W1, rfl, Le.refl _ _, rfl, hm⟩))))))))
     ·refine wak 3 hc17 (fl b1 rfl (Lw.eq rfl (wak 1 hc16 (Pb hc17 rfl (Pb hc16 rfl (mb rfl (bs hm (fun hc20 hm => ?_) fun hc20 hm => ?_)))))))
      ·refine wak 2 hc20 (mb rfl (mb rfl (bs hm (fun hc21 hm => ?_) fun hc21 hm => ?_)))
       ·exact psk 4 hc21 rfl (wak 1 hc20 (Pb hc21 rfl (Pb hc20 rfl (Nb rfl ((ag) ⟨true, W1, rfl, Le.refl _ _, rfl, hm⟩)))))
       ·exact wak 4 hc21 (fl b1 rfl (Lw.ln x0.Text (h0_6.ul a2) rfl (Lw.eq rfl (wak 1 hc20 (Pb hc21 rfl (Pb hc20 rfl (Nb rfl ((ag) ⟨(((x0.Text.length : Int) : Int) == (0 : Int)), W1, rfl, Le.refl _ _, rfl, hm⟩))))))))
      ·exact psk 2 hc20 rfl (puk 4 rfl (psk 1 hc20 rfl (Pb hc20 rfl (Nb rfl ((ag) ⟨false, W1, rfl, Le.refl _ _, rfl, hm⟩)))))
    ·exact psk 2 hc16 rfl (puk 3 rfl (psk 1 hc16 rfl (Pb hc16 rfl (mb rfl (psk 2 rfl rfl (puk 4 rfl (psk 1 rfl rfl (Pb rfl rfl (Nb rfl ((ag) ⟨false, W1, rfl, Le.refl _ _, rfl, hm⟩))))))))))
  ·refine wak 3 hc8 (fl b1 rfl (Lw.seq rfl (Pb hc8 rfl (mb rfl (bs hm (fun hc23 hm => ?_) fun hc23 hm => ?_)))))
   ·refine wak 2 hc23 (mb rfl (mb rfl (bs hm (fun hc24 hm => ?_) fun hc24 hm => ?_)))
    ·refine psk 3 hc24 rfl (wak 1 hc23 (Pb hc24 rfl (Pb hc23 rfl (mb rfl (wak 2 rfl (mb rfl (mb rfl (bs hm (fun hc25 hm => ?_) fun hc25 hm => ?_))))))))
     ·refine psk 3 hc25 rfl (wak 1 rfl (Pb hc25 rfl (Pb rfl rfl (mb rfl (wak 2 rfl (mb rfl (mb rfl (bs hm (fun hc26 hm => ?_) fun hc26 hm => ?_))))))))
      ·exact psk 4 hc26 rfl (wak 1 rfl (Pb hc26 rfl (Pb rfl rfl (Nb rfl ((ag) ⟨true, W1, rfl, Le.refl _ _, rfl, hm⟩)))))
      ·exact wak 4 hc26 (fl b1 rfl (Lw.ln x0.Text (h0_6.ul a2) rfl (Lw.eq rfl (wak 1 rfl (Pb hc26 rfl (Pb rfl rfl (Nb rfl ((ag) ⟨(((x0.Text.length : Int) : Int) == (0 : Int)), W1, rfl, Le.refl _ _, rfl, hm⟩))))))))
     ·refine wak 3 hc25 (fl b1 rfl (Lw.eq rfl (wak 1 rfl (Pb hc25 rfl (Pb rfl rfl (mb rfl (bs hm (fun hc28 hm => ?_) fun hc28 hm => ?_)))))))
      ·refine wak 2 hc28 (mb rfl (mb rfl (bs hm (fun hc29 hm => ?_) fun hc29 hm => ?_)))
       ·exact psk 4 hc29 rfl (wak 1 hc28 (Pb hc29 rfl (Pb hc28 rfl (Nb rfl ((ag) ⟨true, W1, rfl, Le.refl _ _, rfl, hm⟩)))))
       ·exact wak 4 hc29 (fl b1 rfl (Lw.ln x0.Text (h0_6.ul a2) rfl (Lw.eq rfl (wak 1 hc28 (Pb hc29 rfl (Pb hc28 rfl (Nb rfl ((ag) ⟨(((x0.Text.length : Int) : Int) == (0 : Int)), W1, rfl, Le.refl _ _, rfl, hm⟩))))))))
      ·exact psk 2 hc28 rfl (puk 4 rfl (psk 1 hc28 rfl (Pb hc28 rfl (Nb rfl ((ag) ⟨false, W1, rfl, Le.refl _ _, rfl, hm⟩)))))
    ·refine wak 3 hc24 (fl b1 rfl (Lw.seq rfl (wak 1 hc23 (Pb hc24 rfl (Pb hc23 rfl (mb rfl (bs hm (fun hc31 hm => ?_) fun hc31 hm => ?_)))))))
     ·refine wak 2 hc31 (mb rfl (mb rfl (bs hm (fun hc32 hm => ?_) fun hc32 hm => ?_)))
      ·refine psk 3 hc32 rfl (wak 1 hc31 (Pb hc32 rfl (Pb hc31 rfl (mb rfl (wak 2 rfl (mb rfl (mb rfl (bs hm (fun hc33 hm => ?_) fun hc33 hm => ?_))))))))
       ·exact psk 4 hc33 rfl (wak 1 rfl (Pb hc33 rfl (Pb rfl rfl (Nb rfl ((ag) ⟨true, W1, rfl, Le.refl _ _, rfl, hm⟩)))))
       ·exact wak 4 hc33 (fl b1 rfl (Lw.ln x0.Text (h0_6.ul a2) rfl (Lw.eq rfl (wak 1 rfl (Pb hc33 rfl (Pb rfl rfl (Nb rfl ((ag) ⟨(((x0.Text.length : Int) : Int) == (0 : Int)), W1, rfl, Le.refl _ _, rfl, hm⟩))))))))
      ·refine wak 3 hc32 (fl b1 rfl (Lw.eq rfl (wak 1 hc31 (Pb hc32 rfl (Pb hc31 rfl (mb rfl (bs hm (fun hc35 hm => ?_) fun hc35 hm => ?_)))))))
       ·refine wak 2 hc35 (mb rfl (mb rfl (bs hm (fun hc36 hm => ?_) fun hc36 hm => ?_)))
        ·exact psk 4 hc36 rfl (wak 1 hc35 (Pb hc36 rfl (Pb hc35 rfl (Nb rfl ((ag) ⟨true, W1, rfl, Le.refl _ _, rfl, hm⟩)))))
        ·exact wak 4 hc36 (fl b1 rfl (Lw.ln x0.Text (h0_6.ul a2) rfl (Lw.eq rfl (wak 1 hc35 (Pb hc36 rfl (Pb hc35 rfl (Nb rfl ((ag) ⟨(((x0.Text.length : Int) : Int) == (0 : Int)), W1, rfl, Le.refl _ _, rfl, hm⟩))))))))
       ·exact psk 2 hc35 rfl (puk 4 rfl (psk 1 hc35 rfl (Pb hc35 rfl (Nb rfl ((ag) ⟨false, W1, rfl, Le.refl _ _, rfl, hm⟩)))))
     ·exact psk 2 hc31 rfl (puk 3 rfl (psk 1 hc31 rfl (Pb hc31 rfl (mb rfl (psk 2 rfl rfl (puk 4 rfl (psk 1 rfl rfl (Pb rfl rfl (Nb rfl ((ag) ⟨false, W1, rfl, Le.refl _ _, rfl, hm⟩))))))))))
   ·exact psk 2 hc23 rfl (puk 3 rfl (psk 1 hc23 rfl (Pb hc23 rfl (mb rfl (psk 2 rfl rfl (puk 3 rfl (psk 1 rfl rfl (Pb rfl rfl (mb rfl (psk 2 rfl rfl (puk 4 rfl (psk 1 rfl rfl (Pb rfl rfl (Nb rfl ((ag) ⟨false, W1, rfl, Le.refl _ _, rfl, hm⟩)))))))))))))))
theorem p186 {x0 v0_6_ x1 x2 x3 x4 r} (h0 : Rd W K [vI x0.Kind, vS x0.Branch, vS x0.Who, vS x0.Path, vS x0.To, vI x0.At, v0_6_] x0) (hm : Vm.spec_l19Bare x0 x1 x2 x3 x4 = some r) : Q1 186 [.agg [vI x0.Kind, vS x0.Branch, vS x0.Who, vS x0.Path, vS x0.To, vI x0.At, v0_6_].toArray, vB x1, vB x2, vB x3, vB x4] W [] fun W' v => v = vB r :=
 (c186 (h0.view _) hm).ad (fk 0) fun _ _ e => e
theorem c179 {x0 x1 x2 r} (hm : Vm.spec_l1Cut x0 x1 x2 = some r) : Q0 179 [vS x0, .int .u8 (UInt8.toNat x1 : Int), vI x2] W0 fun Wf v => ∃ u0, v = u0 ∧ OwS Wf LL [] [u0] r := by
 unfold Vm.spec_l1Cut at hm
 refine CallR.of Tryz.func179 rfl rfl rfl rfl (sr (Nv (.slice none 0 0) rfl (sr (Lw.t rfl (T.lit0 (α := Str) 2 []) ?_))))
 rintro v1 _ ⟨W1, rfl, l1, o1⟩
 have a2 := l1.o
 refine Nv v1 rfl (sr (Ni rfl (ssr (Ni rfl (Cw.block ?_)))))
 obtain ⟨K9, hK9, hm⟩ := jn_e hm
 refine Cw.loop 11 36 [7, 8, 9] (fun m l w => ∃ y3 y6 y7 v4 W8, CW.w W8 = w ∧ Le [2] W1 W8 ∧ l = [v4, vI y6, vI y7] ∧ Ow W8 2 [] [v4] y3 ∧ Vm.spec_l1Cut_l1 x0 x1 x2 K9 m y3 y6 y7 = some r) _ ⟨([] : List Str), 0, 0, v1, W1, rfl, Le.refl _ _, rfl, o1, hm⟩ ?_
 rintro (_ | m10) _ _ σ ⟨y3, y6, y7, v4, W8, rfl, l8, rfl, o5, hm⟩
 ·cases hm
 unfold Vm.spec_l1Cut_l1 at hm
 have a11 := a2.t l8
 refine Cw.seq ?_
 obtain ⟨K14, hK14, hm⟩ := jn_e hm
 refine Cw.join 11 20 [20] (fun l w => ∃ y12 W13, CW.w W13 = w ∧ Le [] W8 W13 ∧ l = [vB y12] ∧ K14 y12 = some r) ?_ ?_
 ·rintro _ _ σ ⟨y12, W13, rfl, l13, rfl, hm⟩
  rw [hK14] at hm
  have a15 := a11.n l13
  have o16 := o5.up l13
  refine cn hm (fun hm => ?_) fun hm => ?_
  ·refine sk ?_
   obtain ⟨K23, hK23, hm⟩ := jn_e hm
   refine Cw.join 23 36 [7, 8] (fun l w => ∃ y18 y21 v19 W22, CW.w W22 = w ∧ Le [2] W13 W22 ∧ l = [v19, vI y21] ∧ Ow W22 2 [] [v19] y18 ∧ K23 y18 y21 = some r) ?_ ?_
   ·rintro _ _ σ ⟨y18, y21, v19, W22, rfl, l22, rfl, o20, hm⟩
    rw [hK23] at hm
    exact rg (mi rfl (Lw.add rfl (Ni rfl ((agm) ⟨y18, y21, w64 (y7 + 1), v19, W22, rfl, ((l8.j l13).j l22).w, rfl, o20, hm⟩))))
   ·refine Cw.block (sr (ms rfl (mi rfl ?_)))
    obtain ⟨u25, e26, hm⟩ := ob hm
    refine Lw.r rfl (R.chm e26 rfl rfl) (mv (.int .u8 (UInt8.toNat x1 : Int)) rfl (Lw.eq rfl (nl (cn hm (fun hm => ?_) fun hm => ?_))))
    ·refine sr (mv v4 rfl (ms rfl (mi rfl (mi rfl ?_))))
     obtain ⟨q28, e29, hm⟩ := ob hm
     refine Lw.r rfl (R.ss e29 rfl (.inr rfl) (.inr rfl)) (Lw.t rfl (T.bs 3 [vS q28] (cs := [vS q28]) rfl rfl (bsv rfl)) ?_)
     rintro _ _ ⟨g30, W30, rfl, rfl, l30, b30⟩
     obtain ⟨q33, e34, hm⟩ := ob hm
     refine Lw.t rfl (T.app1S (α := Str) (K' := []) (o16.up l30) b30 (rdS _) rfl rfl e34) ?_
     rintro v35 _ ⟨W35, rfl, l35, o35⟩
     exact Nv v35 rfl (rg (mi rfl (Lw.add rfl (Ni rfl ((ag) ⟨q33, w64 (y7 + 1), v35, W35, rfl, (l30.j l35).w, rfl, o35, hm⟩)))))
    ·exact sk ((ag) ⟨y3, y6, v4, W13, rfl, Le.refl _ _, rfl, o16, hm⟩)
  ·refine Cw.exit ?_
   rw [hK9] at hm
   refine sr (mv v4 rfl (ms rfl (mi rfl ?_)))
   obtain ⟨q38, e39, hm⟩ := ob hm
   refine Lw.r rfl (R.ss e39 rfl (.inr rfl) (.inl ⟨rfl, rfl⟩)) (Lw.t rfl (T.bs 4 [vS q38] (cs := [vS q38]) rfl rfl (bsv rfl)) ?_)
   rintro _ _ ⟨g40, W40, rfl, rfl, l40, b40⟩
   have a41 := a15.n l40
   obtain ⟨q43, e44, hm⟩ := ob hm
   refine Lw.t rfl (T.app1S (α := Str) (K' := []) (o16.up l40) b40 (rdS _) rfl rfl e44) ?_
   rintro v45 _ ⟨W45, rfl, l45, o45⟩
   have a46 := a41.t l45
   refine Nv v45 rfl ?_
   cases hm
   exact Cw.ret (ret1 rfl (Res.mk a46 ⟨v45, rfl, o45.s.sub rfl rfl⟩))
 ·refine rg (mi rfl (ms rfl (Lw.r rfl (R.lenS rfl) (Lw.lt rfl (mb rfl (bs hm (fun hc48 hm => ?_) fun hc48 hm => ?_))))))
  ·exact wak 4 hc48 (mv v4 rfl (Lw.ln y3 o5.rd rfl (mi rfl (Lw.lt rfl (Pb hc48 rfl (nl ((ag) ⟨decide (((y3.length : Int) : Int) < (x2 : Int)), W8, rfl, Le.refl _ _, rfl, hm⟩)))))))
  ·exact psk 4 hc48 rfl (Pb hc48 rfl (nl ((ag) ⟨false, W8, rfl, Le.refl _ _, rfl, hm⟩)))
theorem p179 {x0 x1 x2 k0 r} (hm : Vm.spec_l1Cut x0 x1 x2 = some r) : Q1 179 [vS x0, .int .u8 (UInt8.toNat x1 : Int), vI x2] W [] fun W' v => ∃ u0, v = u0 ∧ Ow W' k0 [] [u0] r :=
 (c179 (W0 := W.view [] [])  hm).ad (fk k0) fun _ _ ⟨u0, e, f0⟩ => ⟨u0, e, f0.back (fk_LL _)⟩
theorem c163 {x0 r} (hm : Vm.spec_l4Path x0 = some r) : Q0 163 [vS x0] W0 fun Wf v => v = vB r := by
 unfold Vm.spec_l4Path at hm
 refine CallR.of Tryz.func163 rfl rfl rfl rfl (sr (Nb rfl (sr (ms rfl (cr hm (fun _ => p179 (k0 := 2)) ?_)))))
 rintro z1 v0_3 W3 hm l3 ⟨_, rfl, f3_0⟩
 have a4 := l3.o
 refine Nv v0_3 rfl (ssr (Ni rfl (Cw.block ?_)))
 obtain ⟨K8, hK8, hm⟩ := jn_e hm
 refine Cw.loop 7 18 [2, 4] (fun m l w => ∃ y5 y6 W7, CW.w W7 = w ∧ Le [] W3 W7 ∧ l = [vB y5, vI y6] ∧ Vm.spec_l4Path_l1 z1 K8 m y5 y6 = some r) _ ⟨false, 0, W3, rfl, Le.refl _ _, rfl, hm⟩ ?_
 rintro (_ | m9) _ _ σ ⟨y5, y6, W7, rfl, l7, rfl, hm⟩
 ·cases hm
 unfold Vm.spec_l4Path_l1 at hm
 have a10 := a4.n l7
 have o11 := f3_0.up l7
 refine ssr (mi rfl (mv v0_3 rfl (Lw.ln z1 o11.rd rfl (Lw.lt rfl (nl (cn hm (fun hm => ?_) fun hm => ?_))))))
 ·refine sk (Cw.seq (Cw.block (sr (mv v0_3 rfl (mi rfl ?_)))))
  obtain ⟨u13, e14, hm⟩ := ob hm
  refine Lw.r rfl (R.ix (α := Str) o11.rd e14 rfl rfl rfl) (Lw.r rfl (R.ld rfl rfl (o11.rd.at_ e14).str) (ca hm (fun _ => p138) fun z15 W17 hm l17 => ?_))
  have a18 := a10.n l17
  refine Lw.r rfl (R.not rfl) (nl (cn hm (fun hm => ?_) fun hm => ?_))
  ·exact sr (Nb rfl (.ret (rt hm a18)))
  ·exact sk (rg (mi rfl (Lw.add rfl (Ni rfl ((agm) ⟨y5, w64 (y6 + 1), W17, rfl, (l7.j l17).w, rfl, hm⟩)))))
 ·refine Cw.exit ?_
  rw [hK8] at hm
  exact sr (mv v0_3 rfl (Lw.ln z1 o11.rd rfl (Lw.le rfl (Nb rfl (.ret (rt hm a10))))))
theorem p163 {x0 r} (hm : Vm.spec_l4Path x0 = some r) : Q1 163 [vS x0] W [] fun W' v => v = vB r :=
 (c163 (W0 := W.view [] [])  hm).ad (fk 0) fun _ _ e => e
theorem c180 {x0 r} (hm : Vm.spec_l1Line x0 = some r) : Q0 180 [vS x0] W0 fun Wf v => v = vB r := by
 unfold Vm.spec_l1Line at hm
 refine CallR.of Tryz.func180 rfl rfl rfl rfl (sr (Nb rfl (ssr (Ni rfl (Cw.block ?_)))))
 obtain ⟨K4, hK4, hm⟩ := jn_e hm
 refine Cw.loop 4 19 [2, 3] (fun m l w => ∃ y1 y2 W3, CW.w W3 = w ∧ Le [] W0 W3 ∧ l = [vB y1, vI y2] ∧ Vm.spec_l1Line_l1 x0 K4 m y1 y2 = some r) _ ⟨false, 0, W0, rfl, Le.refl _ _, rfl, hm⟩ ?_
 rintro (_ | m5) _ _ σ ⟨y1, y2, W3, rfl, l3, rfl, hm⟩
 ·cases hm
 unfold Vm.spec_l1Line_l1 at hm
 have a6 := l3.o
 refine ssr (mi rfl (ms rfl (Lw.r rfl (R.lenS rfl) (Lw.lt rfl (nl (cn hm (fun hm => ?_) fun hm => ?_))))))
 ·refine sk (Cw.seq (Cw.block ?_))
  obtain ⟨K10, hK10, hm⟩ := jn_e hm
  refine Cw.join 10 19 [19] (fun l w => ∃ y8 W9, CW.w W9 = w ∧ Le [] W3 W9 ∧ l = [vB y8] ∧ K10 y8 = some r) ?_ ?_
  ·rintro _ _ σ ⟨y8, W9, rfl, l9, rfl, hm⟩
   rw [hK10] at hm
   have a11 := a6.n l9
   refine cn hm (fun hm => ?_) fun hm => ?_
   ·exact sr (Nb rfl (.ret (rt hm a11)))
   ·exact sk (rg (mi rfl (Lw.add rfl (Ni rfl ((agm) ⟨y1, w64 (y2 + 1), W9, rfl, (l3.j l9).w, rfl, hm⟩)))))
  ·refine rg (ms rfl (mi rfl ?_))
   obtain ⟨u13, e14, hm⟩ := ob hm
   refine Lw.r rfl (R.chm e14 rfl rfl) (Lw.lt rfl (mb rfl (bs hm (fun hc15 hm => ?_) fun hc15 hm => ?_)))
   ·exact psk 4 hc15 rfl (Pb hc15 rfl (nl ((ag) ⟨true, W3, rfl, Le.refl _ _, rfl, hm⟩)))
   ·refine wak 4 hc15 (ms rfl (mi rfl ?_))
    obtain ⟨u16, e17, hm⟩ := ob hm
    exact Lw.r rfl (R.chm e17 rfl rfl) (Lw.gt rfl (Pb hc15 rfl (nl ((ag) ⟨decide ((126 : Int) < ((UInt8.toNat u16 : Int) : Int)), W3, rfl, Le.refl _ _, rfl, hm⟩))))
 ·refine Cw.exit ?_
  rw [hK4] at hm
  exact sr (ms rfl (Lw.r rfl (R.lenS rfl) (Lw.le rfl (Nb rfl (.ret (rt hm a6))))))
theorem p180 {x0 r} (hm : Vm.spec_l1Line x0 = some r) : Q1 180 [vS x0] W [] fun W' v => v = vB r :=
 (c180 (W0 := W.view [] [])  hm).ad (fk 0) fun _ _ e => e
theorem c164 {x0 v0_ r} (h0 : Rd W0 [0] [v0_] x0) (hm : Vm.spec_l1Ok x0 = some r) : Q0 164 [v0_] W0 fun Wf v => v = vB r := by
 unfold Vm.spec_l1Ok at hm
 refine CallR.of Tryz.func164 rfl rfl rfl rfl (sr (Nb rfl (ssr (Ni rfl (Cw.block ?_)))))
 obtain ⟨K4, hK4, hm⟩ := jn_e hm
 refine Cw.loop 4 15 [2, 3] (fun m l w => ∃ y1 y2 W3, CW.w W3 = w ∧ Le [] W0 W3 ∧ l = [vB y1, vI y2] ∧ Vm.spec_l1Ok_l1 x0 K4 m y1 y2 = some r) _ ⟨false, 0, W0, rfl, Le.refl _ _, rfl, hm⟩ ?_
 rintro (_ | m5) _ _ σ ⟨y1, y2, W3, rfl, l3, rfl, hm⟩
 ·cases hm
 unfold Vm.spec_l1Ok_l1 at hm
 have a6 := l3.o
 refine ssr ?_
 have s7 := h0.ul a6
 refine mi rfl (mv v0_ rfl (Lw.ln x0 s7 rfl (Lw.lt rfl (nl (cn hm (fun hm => ?_) fun hm => ?_)))))
 ·refine sk (Cw.seq (Cw.block (sr (mv v0_ rfl (mi rfl ?_)))))
  obtain ⟨u9, e10, hm⟩ := ob hm
  refine Lw.r rfl (R.ix (α := Str) s7 e10 rfl rfl rfl) (Lw.r rfl (R.ld rfl rfl (s7.at_ e10).str) (ca hm (fun _ => p180) fun z11 W13 hm l13 => ?_))
  have a14 := a6.n l13
  refine Lw.r rfl (R.not rfl) (nl (cn hm (fun hm => ?_) fun hm => ?_))
  ·exact sr (Nb rfl (.ret (rt hm a14)))
  ·exact sk (rg (mi rfl (Lw.add rfl (Ni rfl ((agm) ⟨y1, w64 (y2 + 1), W13, rfl, (l3.j l13).w, rfl, hm⟩)))))
 ·refine Cw.exit ?_
  rw [hK4] at hm
  exact sr (mv v0_ rfl (Lw.ln x0 s7 rfl (Lw.le rfl (Nb rfl (.ret (rt hm a6))))))
theorem p164 {x0 v0_ r} (h0 : Rd W K [v0_] x0) (hm : Vm.spec_l1Ok x0 = some r) : Q1 164 [v0_] W [] fun W' v => v = vB r :=
 (c164 (h0.view _) hm).ad (fk 0) fun _ _ e => e
theorem c187 {x0 v0_ r} (h0 : Rd W0 [0] [v0_] x0) (hm : Vm.spec_l19Lines x0 = some r) : Q0 187 [v0_] W0 fun Wf v => v = vB r := by
 unfold Vm.spec_l19Lines at hm
 refine CallR.of Tryz.func187 rfl rfl rfl rfl (sr (Nb rfl (ssr (Ni rfl (Cw.block ?_)))))
 obtain ⟨K5, hK5, hm⟩ := jn_e hm
 refine Cw.loop 5 26 [2, 3, 4] (fun m l w => ∃ y1 y2 j3 W4, CW.w W4 = w ∧ Le [] W0 W4 ∧ l = [vB y1, vI y2, j3] ∧ Vm.spec_l19Lines_l1 x0 K5 m y1 y2 = some r) _ ⟨false, 0, undef, W0, rfl, Le.refl _ _, rfl, hm⟩ ?_
 rintro (_ | m6) _ _ σ ⟨y1, y2, j3, W4, rfl, l4, rfl, hm⟩
 ·cases hm
 unfold Vm.spec_l19Lines_l1 at hm
 have a7 := l4.o
 refine ssr (mi rfl (mv v0_ rfl (Lw.ln x0 (h0.ul a7) rfl (Lw.lt rfl (nl (cn hm (fun hm => ?_) fun hm => ?_))))))
 ·refine sk (Cw.seq (Cw.block (sr (Ni rfl (Cw.block ?_)))))
  obtain ⟨K13, hK13, hm⟩ := jn_e hm
  refine Cw.loop 11 26 [2, 4] (fun m l w => ∃ y10 y11 W12, CW.w W12 = w ∧ Le [] W4 W12 ∧ l = [vB y10, vI y11] ∧ Vm.spec_l19Lines_l2 x0 y2 K13 m y10 y11 = some r) _ ⟨y1, 0, W4, rfl, Le.refl _ _, rfl, hm⟩ ?_
  rintro (_ | m14) _ _ σ ⟨y10, y11, W12, rfl, l12, rfl, hm⟩
  ·cases hm
  unfold Vm.spec_l19Lines_l2 at hm
  have a15 := a7.n l12
  refine ssr (mi rfl (mv v0_ rfl (mi rfl ?_)))
  obtain ⟨u16, e17, hm⟩ := ob hm
  have s18 := h0.ul a15
  refine Lw.r rfl (R.ix (α := Str) s18 e17 rfl rfl rfl) (Lw.r rfl (R.ld rfl rfl (s18.at_ e17).str) (Lw.r rfl (R.lenS rfl) (Lw.lt rfl (nl (cn hm (fun hm => ?_) fun hm => ?_)))))
  ·refine sk (Cw.seq (Cw.block (sr (mv v0_ rfl (mi rfl ?_)))))
   obtain ⟨u20, e21, hm⟩ := ob hm
   refine Lw.r rfl (R.ix (α := Str) s18 e21 rfl rfl rfl) (Lw.r rfl (R.ld rfl rfl (s18.at_ e21).str) (mi rfl ?_))
   obtain ⟨u22, e23, hm⟩ := ob hm
   refine Lw.r rfl (R.chm e23 rfl rfl) (Lw.eq rfl (nl (cn hm (fun hm => ?_) fun hm => ?_)))
   ·exact sr (Nb rfl (.ret (rt hm a15)))
   ·exact sk (rg (mi rfl (Lw.add rfl (Ni rfl ((agm) ⟨y10, w64 (y11 + 1), W12, rfl, l12, rfl, hm⟩)))))
  ·refine Cw.exit ?_
   rw [hK13] at hm
   exact rg (mi rfl (Lw.add rfl (Ni rfl ((agm) ⟨y10, w64 (y2 + 1), vI y11, W12, rfl, (l4.j l12).w, rfl, hm⟩))))
 ·refine Cw.exit ?_
  rw [hK5] at hm
  refine sr (mv v0_ rfl (ca hm (fun _ => p164 (h0.ul a7)) fun z25 W27 hm l27 => ?_))
  have a28 := a7.n l27
  exact Nb rfl (.ret (rt hm a28))
theorem p187 {x0 v0_ r} (h0 : Rd W K [v0_] x0) (hm : Vm.spec_l19Lines x0 = some r) : Q1 187 [v0_] W [] fun W' v => v = vB r :=
 (c187 (h0.view _) hm).ad (fk 0) fun _ _ e => e
end Go.Sx
