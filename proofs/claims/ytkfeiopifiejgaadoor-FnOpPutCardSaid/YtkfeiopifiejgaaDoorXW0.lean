/- Walks: each function answers as its model, printed by a program of ours. Conditions: the arguments read as they are given. -/
import Derived.Test.YtkfeiopifiejgaaDoorXTs
import Derived.Test.YtkfeiopifiejgaaDoorXM0
import Derived.Test.YtkfeiopifiejgaaDoorXE
namespace Go.Sx
open Go Go.Proofs Go.Vm Rp
set_option linter.unusedVariables false
set_option linter.unusedSimpArgs false

variable {W W0 : CW} {K : List Nat}
theorem c86 {x0 v0_ r} (h0 : Rd W0 [0] [v0_] x0) (hm : Vm.spec_l30Open x0 = some r) : Q0 86 [v0_] W0 fun Wf v => ∃ (ug0 : Nat) (u0_0 : Value), v = ptr (bx ug0) ∧ Bx Wf 31 ug0 [u0_0, vI r.p] ∧ Rd Wf [0] [u0_0] r.b := by
 unfold Vm.spec_l30Open at hm
 refine CallR.of Tryd.func86 rfl rfl rfl rfl (sr (Nv (.pointer none) rfl ?_))
 obtain ⟨K5, hK5, hm⟩ := jn_e hm
 refine Cw.join 3 7 [0] (fun l w => ∃ y1 v2 W4, CW.w W4 = w ∧ Le [] W0 W4 ∧ l = [v2] ∧ Rd W4 [0] [v2] y1 ∧ K5 y1 = some r) ?_ ?_
 ·rintro _ _ σ ⟨y1, v2, W4, rfl, l4, rfl, r3, hm⟩
  rw [hK5] at hm
  have a6 := l4.o
  refine sr (mv v2 rfl (Lw.r rfl (R.bd (zs := [.slice none 0 0, vI 0]) (cs := [v2, vI 0]) [(0, v2)] rfl rfl rfl (bp_cons r3.oc rfl bp_nil)) (bo 2 rfl fun g7 W7 l7 b7 => ?_)))
  have a8 := l7.o
  refine Np rfl ?_
  obtain ⟨W9, ew9, l9, b9⟩ := b7.dyeO 31
  have a10 := l9.s
  cases hm
  rw [← ew9]
  exact Cw.ret (ret1 rfl (Res.mk ((a6.trans a8).trans a10) ⟨g7, v2, rfl, b9, (r3.ul (a8.trans a10))⟩))
 ·refine sr (mv v0_ rfl (Lw.ln x0 h0 rfl (Lw.gt rfl (nl (cn hm (fun hm => ?_) fun hm => ?_)))))
  ·refine rg (mv v0_ rfl ?_)
   obtain ⟨q13, e14, hm⟩ := ob hm
   have r16 := h0.cutV e14
   exact Lw.r rfl (R.sl h0 e14 rfl (.inl ⟨rfl, rfl⟩) (.inr rfl)) (Nv (cutV v0_ (0 : Int).toNat (2000 : Int).toNat (Rp.sz (Byte))) rfl ((ag) ⟨q13, (cutV v0_ (0 : Int).toNat (2000 : Int).toNat (Rp.sz (Byte))), W0, rfl, Le.refl _ _, rfl, r16, hm⟩))
  ·exact sk ((ag) ⟨x0, v0_, W0, rfl, Le.refl _ _, rfl, h0, hm⟩)

theorem p86 {x0 v0_ k0 r} (h0 : Rd W K [v0_] x0) (hm : Vm.spec_l30Open x0 = some r) : Q1 86 [v0_] W [] fun W' v => ∃ (ug0 : Nat) (u0_0 : Value), v = ptr (bx ug0) ∧ Bx W' k0 ug0 [u0_0, vI r.p] ∧ Rd W' (0 :: K) [u0_0] r.b :=
 CallR.adJ (J := []) (fun c => bif Nat.beq c 0 then 0 else bif Nat.beq c 31 then k0 else 0) (c86 (h0.view _) hm) fun _ _ ⟨ug0, u0_0, e, f0, f1⟩ => ⟨ug0, u0_0, e, f0.backN rfl, f1.back rfl⟩

theorem c94 {x0 g0_ v0_0_ x1 r} (hB0 : Bx W0 2 g0_ [v0_0_, vI x0.p]) (h0_0 : Rd W0 [0] [v0_0_] x0.b) (hm : Vm.spec_l30Rd_pick x0 x1 = some r) : Q0 94 [ptr (bx g0_), vI x1] W0 fun Wf v => v = vI r.1 ∧ Bx Wf 2 g0_ [v0_0_, vI r.2] := by
 unfold Vm.spec_l30Rd_pick at hm
 refine CallR.of Tryd.func94 rfl rfl rfl rfl (sr (Ni rfl (sr (mp rfl (mp rfl (Lw.r rfl (R.nc rfl) (Lw.fa rfl (Lw.r rfl (R.ld (v := vI x0.p) rfl rfl (hB0.cell rfl)) (Lw.add rfl (Lw.r rfl (R.nc rfl) (Lw.fa rfl (Lw.u (T.st (j := 1) (v := vI (w64 (x0.p + 1))) hB0 rfl rfl rfl rfl rfl) ?_))))))))))))
 rintro _ _ ⟨W1, rfl, l1, b1⟩
 have a2 := l1.s
 refine nl (Cw.seq ?_)
 obtain ⟨K5, hK5, hm⟩ := jn_e hm
 refine Cw.join 15 24 [24] (fun l w => ∃ y3 W4, CW.w W4 = w ∧ Le [] W1 W4 ∧ l = [vB y3] ∧ K5 y3 = some r) ?_ ?_
 ·rintro _ _ σ ⟨y3, W4, rfl, l4, rfl, hm⟩
  rw [hK5] at hm
  have a6 := a2.n l4
  have b7 := b1.up l4
  refine cn hm (fun hm => ?_) fun hm => ?_
  ·refine sr (Ni rfl ?_)
   cases hm
   exact Cw.ret (ret1 rfl (Res.mk a6 ⟨rfl, b7⟩))
  ·refine sk (sr (mp rfl (Lw.r rfl (R.nc rfl) (fl b7 rfl (Lw.sub rfl (Ni rfl (ssr ?_)))))))
   have s9 := h0_0.ul a6
   refine mi rfl (mp rfl (Lw.r rfl (R.nc rfl) (fl b7 rfl (Lw.ln x0.b s9 rfl (Lw.lt rfl (nl (cn hm (fun hm => ?_) fun hm => ?_)))))))
   ·refine sr (mp rfl (Lw.r rfl (R.nc rfl) (fl b7 rfl (mi rfl ?_))))
    obtain ⟨u11, e12, hm⟩ := ob hm
    refine Lw.r rfl (R.ix (α := Byte) s9 e12 rfl rfl rfl) (Lw.r rfl (R.ld rfl rfl (s9.at_ e12).byte) (Lw.r rfl (R.cvI rfl rfl) (mi rfl ?_)))
    obtain ⟨_, e13, hm⟩ := ob hm
    refine Lw.r rfl (R.rem rfl rfl (nz e13)) (Ni rfl ?_)
    cases hm
    exact Cw.ret (ret1 rfl (Res.mk a6 ⟨rfl, b7⟩))
   ·refine sk (Cw.seq (Cw.draw [] [(0, 0), (1, 0), (2, 0), (3, 1), (4, 0), (5, 0), (6, 0), (7, 0), (8, 1), (9, 0), (10, 0), (11, 0), (12, 1), (13, 0), (14, 0), (15, 0), (16, 0), (17, 0), (18, 1), (19, 0), (20, 0), (21, 0), (22, 0), (23, 0), (24, 0), (25, 1), (26, 0), (27, 0), (28, 0), (29, 1), (30, 0), (31, 0), (32, 0), (33, 0), (34, 0), (35, 0), (36, 0), (37, 0), (38, 0), (39, 0), (40, 1), (41, 0), (42, 0), (43, 0), (44, 0), (45, 0)] mixed (by kernel_rfl) fun W14 l14 => ?_))
    have a15 := a6.n l14
    have b16 := b7.up l14
    have s17 := h0_0.ul a15
    refine Dp rfl (Mw.p rfl rfl (fun _ => R.nc rfl) (Dfl b16 rfl rfl rfl (Di rfl (Dp rfl (Mw.p rfl rfl (fun _ => R.nc rfl) (Dfl b16 rfl rfl rfl (Mw.p rfl rfl (fun _ => lenR (xs := x0.b) s17 rfl) ?_)))))))
    obtain ⟨_, e18, hm⟩ := ob hm
    refine Mw.p rfl rfl (fun _ => R.rem rfl rfl (nz e18)) ?_
    obtain ⟨u19, e20, hm⟩ := ob hm
    refine Mw.p rfl rfl (fun _ => R.ix (α := Byte) s17 e20 rfl rfl rfl) (Mw.q rfl rfl (fun _ c => R.ld rfl rfl (cl_cell (s17.at_ e20).1 rfl (s17.at_ e20).byte c)) (Mw.p rfl rfl (fun _ => R.cvI rfl rfl) (Mw.p rfl rfl (fun _ => R.mul rfl rfl) (Dp rfl (Mw.p rfl rfl (fun _ => R.nc rfl) (Dfl b16 rfl rfl rfl (Di rfl (Mw.p rfl rfl (fun _ => R.mul rfl rfl) (Mw.p rfl rfl (fun _ => R.add rfl rfl) (Dp rfl (Mw.p rfl rfl (fun _ => R.nc rfl) (Dfl b16 rfl rfl rfl (Mw.p rfl rfl (fun _ => lenR (xs := x0.b) s17 rfl) ?_)))))))))))))
    obtain ⟨_, e21, hm⟩ := ob hm
    refine Mw.p rfl rfl (fun _ => R.rem rfl rfl (nz e21)) ?_
    obtain ⟨u22, e23, hm⟩ := ob hm
    refine Mw.p rfl rfl (fun _ => R.ix (α := Byte) s17 e23 rfl rfl rfl) (Mw.q rfl rfl (fun _ c => R.ld rfl rfl (cl_cell (s17.at_ e23).1 rfl (s17.at_ e23).byte c)) (Mw.p rfl rfl (fun _ => R.cvI rfl rfl) (Mw.p rfl rfl (fun _ => R.mul rfl rfl) (Mw.p rfl rfl (fun _ => R.add rfl rfl) (Di rfl (Mw.p rfl rfl (fun _ => R.mul rfl rfl) (Mw.p rfl rfl (fun _ => R.add rfl rfl) (Di rfl (Dp rfl (Mw.p rfl rfl (fun _ => R.nc rfl) (Dfl b16 rfl rfl rfl (Mw.p rfl rfl (fun _ => lenR (xs := x0.b) s17 rfl) ?_))))))))))))
    obtain ⟨_, e24, hm⟩ := ob hm
    refine Mw.p rfl rfl (fun _ => R.quo rfl rfl (nz e24)) (Mw.p rfl rfl (fun _ => R.mul rfl rfl) (Mw.p rfl rfl (fun _ => R.add rfl rfl) (Hi rfl (Mw.nil (sr (mi rfl (mi rfl (Lw.r rfl (R.quo rfl rfl (by decide)) (Lw.r rfl (R.xor rfl rfl) (Ni rfl (sr (mi rfl (mi rfl ?_)))))))))))))
    obtain ⟨_, e25, hm⟩ := ob hm
    refine Lw.r rfl (R.rem rfl rfl (nz e25)) (Ni rfl ?_)
    cases hm
    exact Cw.ret (ret1 rfl (Res.mk a15 ⟨rfl, b16⟩))
 ·refine rg (mi rfl (Lw.lt rfl (mb rfl (bs hm (fun hc26 hm => ?_) fun hc26 hm => ?_))))
  ·exact psk 6 hc26 rfl (Pb hc26 rfl (nl ((ag) ⟨true, W1, rfl, Le.refl _ _, rfl, hm⟩)))
  ·exact wak 6 hc26 (mp rfl (Lw.r rfl (R.nc rfl) (fl b1 rfl (Lw.ln x0.b (h0_0.ul a2) rfl (Lw.eq rfl (Pb hc26 rfl (nl ((ag) ⟨(((x0.b.length : Int) : Int) == (0 : Int)), W1, rfl, Le.refl _ _, rfl, hm⟩))))))))

theorem p94 {x0 g0_ v0_0_ x1 c0 r} (hB0 : Bx W c0 g0_ [v0_0_, vI x0.p]) (h0_0 : Rd W K [v0_0_] x0.b) (hJ : okJ K [c0] = true) (hm : Vm.spec_l30Rd_pick x0 x1 = some r) : Q1 94 [ptr (bx g0_), vI x1] W [c0] fun W' v => v = vI r.1 ∧ Bx W' c0 g0_ [v0_0_, vI r.2] :=
 CallR.adJ (J := [c0]) (fun c => bif Nat.beq c 0 then 0 else bif Nat.beq c 2 then c0 else 0) (c94 (hB0.viewJ 0 hJ) (h0_0.view _) hm) fun _ _ ⟨e, f0⟩ => ⟨e, Bx.backJ 0 f0 rfl⟩

theorem c121 {x0 g0_ v0_0_ x1 v1_ r} (hB0 : Bx W0 2 g0_ [v0_0_, vI x0.p]) (h0_0 : Rd W0 [0] [v0_0_] x0.b) (h1 : Rd W0 [0] [v1_] x1) (hm : Vm.spec_l30Rd_of x0 x1 = some r) : Q0 121 [ptr (bx g0_), v1_] W0 fun Wf v => v = vS r.1 ∧ Bx Wf 2 g0_ [v0_0_, vI r.2] := by
 unfold Vm.spec_l30Rd_of at hm
 refine CallR.of Tryd.func121 rfl rfl rfl rfl (sr (Ns rfl (sr (mv v1_ rfl (mp rfl (mv v1_ rfl (Lw.ln x1 h1 rfl (cr hm (fun _ => p94 (c0 := 2) (x0 := x0) hB0 h0_0 rfl) ?_))))))))
 rintro z1 _ W3 hm l3 ⟨rfl, f3_0⟩
 have a4 := l3.s
 obtain ⟨u5, e6, hm⟩ := ob hm
 refine Lw.r rfl (R.ix (α := Str) (h1.ul a4) e6 rfl rfl rfl) (Lw.r rfl (R.ld rfl rfl ((h1.ul a4).at_ e6).str) (Ns rfl ?_))
 cases hm
 exact Cw.ret (ret1 rfl (Res.mk a4 ⟨rfl, f3_0⟩))

theorem p121 {x0 g0_ v0_0_ x1 v1_ c0 r} (hB0 : Bx W c0 g0_ [v0_0_, vI x0.p]) (h0_0 : Rd W K [v0_0_] x0.b) (h1 : Rd W K [v1_] x1) (hJ : okJ K [c0] = true) (hm : Vm.spec_l30Rd_of x0 x1 = some r) : Q1 121 [ptr (bx g0_), v1_] W [c0] fun W' v => v = vS r.1 ∧ Bx W' c0 g0_ [v0_0_, vI r.2] :=
 CallR.adJ (J := [c0]) (fun c => bif Nat.beq c 0 then 0 else bif Nat.beq c 2 then c0 else 0) (c121 (hB0.viewJ 0 hJ) (h0_0.view _) (h1.view _) hm) fun _ _ ⟨e, f0⟩ => ⟨e, Bx.backJ 0 f0 rfl⟩

theorem c128 {x0 g0_ v0_0_ r} (hB0 : Bx W0 2 g0_ [v0_0_, vI x0.p]) (h0_0 : Rd W0 [0] [v0_0_] x0.b) (hm : Vm.spec_l30Branch x0 = some r) : Q0 128 [ptr (bx g0_)] W0 fun Wf v => v = vS r.1 ∧ Bx Wf 2 g0_ [v0_0_, vI r.2] := by
 unfold Vm.spec_l30Branch at hm
 refine CallR.of Tryd.func128 rfl rfl rfl rfl (sr (Ns rfl (sr (mp rfl (Lw.t rfl (T.bsS (α := Str) (xs := [([109, 97, 105, 110] : Str), ([109, 97, 105, 110] : Str), ([115, 105, 100, 101] : Str), ([100, 101, 118] : Str)]) 3 [] (W := W0) [vS ([109, 97, 105, 110] : Str), vS ([109, 97, 105, 110] : Str), vS ([115, 105, 100, 101] : Str), vS ([100, 101, 118] : Str)] (Each.cons ((rdS _)) (Each.cons ((rdS _)) (Each.cons ((rdS _)) (Each.cons ((rdS _)) Each.nil)))) rfl) ?_)))))
 rintro v1 _ ⟨W1, rfl, l1, o1⟩
 have a2 := l1.o
 have b3 := hB0.up l1
 refine cr hm (fun _ => p121 (K := [0, 3]) (c0 := 2) (x0 := x0) b3 ((h0_0.ul a2).sub (M := [0, 3]) rfl) (o1.rd.sub (M := [0, 3]) rfl) rfl) ?_
 rintro z5 _ W7 hm l7 ⟨rfl, f7_0⟩
 have a8 := a2.t l7
 refine Ns rfl ?_
 cases hm
 exact Cw.ret (ret1 rfl (Res.mk a8 ⟨rfl, f7_0⟩))

theorem p128 {x0 g0_ v0_0_ c0 r} (hB0 : Bx W c0 g0_ [v0_0_, vI x0.p]) (h0_0 : Rd W K [v0_0_] x0.b) (hJ : okJ K [c0] = true) (hm : Vm.spec_l30Branch x0 = some r) : Q1 128 [ptr (bx g0_)] W [c0] fun W' v => v = vS r.1 ∧ Bx W' c0 g0_ [v0_0_, vI r.2] :=
 CallR.adJ (J := [c0]) (fun c => bif Nat.beq c 0 then 0 else bif Nat.beq c 2 then c0 else 0) (c128 (hB0.viewJ 0 hJ) (h0_0.view _) hm) fun _ _ ⟨e, f0⟩ => ⟨e, Bx.backJ 0 f0 rfl⟩

theorem c129 {x0 g0_ v0_0_ r} (hB0 : Bx W0 2 g0_ [v0_0_, vI x0.p]) (h0_0 : Rd W0 [0] [v0_0_] x0.b) (hm : Vm.spec_l30Path x0 = some r) : Q0 129 [ptr (bx g0_)] W0 fun Wf v => v = vS r.1 ∧ Bx Wf 2 g0_ [v0_0_, vI r.2] := by
 unfold Vm.spec_l30Path at hm
 refine CallR.of Tryd.func129 rfl rfl rfl rfl (sr (Ns rfl (sr (mp rfl (Lw.t rfl (T.bsS (α := Str) (xs := [([97] : Str), ([98] : Str), ([100, 47, 101] : Str), ([100, 47, 102] : Str), ([103, 47, 104, 47, 105] : Str), ([103, 47, 107] : Str), ([122] : Str)]) 3 [] (W := W0) [vS ([97] : Str), vS ([98] : Str), vS ([100, 47, 101] : Str), vS ([100, 47, 102] : Str), vS ([103, 47, 104, 47, 105] : Str), vS ([103, 47, 107] : Str), vS ([122] : Str)] (Each.cons ((rdS _)) (Each.cons ((rdS _)) (Each.cons ((rdS _)) (Each.cons ((rdS _)) (Each.cons ((rdS _)) (Each.cons ((rdS _)) (Each.cons ((rdS _)) Each.nil))))))) rfl) ?_)))))
 rintro v1 _ ⟨W1, rfl, l1, o1⟩
 have a2 := l1.o
 have b3 := hB0.up l1
 refine cr hm (fun _ => p121 (K := [0, 3]) (c0 := 2) (x0 := x0) b3 ((h0_0.ul a2).sub (M := [0, 3]) rfl) (o1.rd.sub (M := [0, 3]) rfl) rfl) ?_
 rintro z5 _ W7 hm l7 ⟨rfl, f7_0⟩
 have a8 := a2.t l7
 refine Ns rfl ?_
 cases hm
 exact Cw.ret (ret1 rfl (Res.mk a8 ⟨rfl, f7_0⟩))

theorem p129 {x0 g0_ v0_0_ c0 r} (hB0 : Bx W c0 g0_ [v0_0_, vI x0.p]) (h0_0 : Rd W K [v0_0_] x0.b) (hJ : okJ K [c0] = true) (hm : Vm.spec_l30Path x0 = some r) : Q1 129 [ptr (bx g0_)] W [c0] fun W' v => v = vS r.1 ∧ Bx W' c0 g0_ [v0_0_, vI r.2] :=
 CallR.adJ (J := [c0]) (fun c => bif Nat.beq c 0 then 0 else bif Nat.beq c 2 then c0 else 0) (c129 (hB0.viewJ 0 hJ) (h0_0.view _) hm) fun _ _ ⟨e, f0⟩ => ⟨e, Bx.backJ 0 f0 rfl⟩

theorem c120 {x0 g0_ v0_0_ x1 v1_ r} (hB0 : Bx W0 2 g0_ [v0_0_, vI x0.p]) (h0_0 : Rd W0 [0] [v0_0_] x0.b) (h1 : Rd W0 [0] [v1_] x1) (hm : Vm.spec_l30Rd_one x0 x1 = some r) : Q0 120 [ptr (bx g0_), v1_] W0 fun Wf v => v = vI r.1 ∧ Bx Wf 2 g0_ [v0_0_, vI r.2] := by
 unfold Vm.spec_l30Rd_one at hm
 refine CallR.of Tryd.func120 rfl rfl rfl rfl (sr (Ni rfl (sr (mv v1_ rfl (mp rfl (mv v1_ rfl (Lw.ln x1 h1 rfl (cr hm (fun _ => p94 (c0 := 2) (x0 := x0) hB0 h0_0 rfl) ?_))))))))
 rintro z1 _ W3 hm l3 ⟨rfl, f3_0⟩
 have a4 := l3.s
 obtain ⟨u5, e6, hm⟩ := ob hm
 refine Lw.r rfl (R.ix (α := Int) (h1.ul a4) e6 rfl rfl rfl) (Lw.r rfl (R.ld rfl rfl ((h1.ul a4).at_ e6).int) (Ni rfl ?_))
 cases hm
 exact Cw.ret (ret1 rfl (Res.mk a4 ⟨rfl, f3_0⟩))

theorem p120 {x0 g0_ v0_0_ x1 v1_ c0 r} (hB0 : Bx W c0 g0_ [v0_0_, vI x0.p]) (h0_0 : Rd W K [v0_0_] x0.b) (h1 : Rd W K [v1_] x1) (hJ : okJ K [c0] = true) (hm : Vm.spec_l30Rd_one x0 x1 = some r) : Q1 120 [ptr (bx g0_), v1_] W [c0] fun W' v => v = vI r.1 ∧ Bx W' c0 g0_ [v0_0_, vI r.2] :=
 CallR.adJ (J := [c0]) (fun c => bif Nat.beq c 0 then 0 else bif Nat.beq c 2 then c0 else 0) (c120 (hB0.viewJ 0 hJ) (h0_0.view _) (h1.view _) hm) fun _ _ ⟨e, f0⟩ => ⟨e, Bx.backJ 0 f0 rfl⟩

theorem c146 {x0 g0_ v0_0_ r} (hB0 : Bx W0 2 g0_ [v0_0_, vI x0.p]) (h0_0 : Rd W0 [0] [v0_0_] x0.b) (hm : Vm.spec_l30Line x0 = some r) : Q0 146 [ptr (bx g0_)] W0 fun Wf v => v = vS r.1 ∧ Bx Wf 2 g0_ [v0_0_, vI r.2] := by
 unfold Vm.spec_l30Line at hm
 refine CallR.of Tryd.func146 rfl rfl rfl rfl (sr (Ns rfl (sr (mp rfl (Lw.t rfl (T.bsS (α := Str) (xs := [([97] : Str), ([98] : Str), ([99] : Str), ([100] : Str), ([] : Str), ([120, 32, 121] : Str), ([115, 101, 101, 32, 97] : Str), ([115, 101, 101, 32, 100, 47, 101] : Str), ([101, 110, 100] : Str)]) 3 [] (W := W0) [vS ([97] : Str), vS ([98] : Str), vS ([99] : Str), vS ([100] : Str), vS ([] : Str), vS ([120, 32, 121] : Str), vS ([115, 101, 101, 32, 97] : Str), vS ([115, 101, 101, 32, 100, 47, 101] : Str), vS ([101, 110, 100] : Str)] (Each.cons ((rdS _)) (Each.cons ((rdS _)) (Each.cons ((rdS _)) (Each.cons ((rdS _)) (Each.cons ((rdS _)) (Each.cons ((rdS _)) (Each.cons ((rdS _)) (Each.cons ((rdS _)) (Each.cons ((rdS _)) Each.nil))))))))) rfl) ?_)))))
 rintro v1 _ ⟨W1, rfl, l1, o1⟩
 have a2 := l1.o
 have b3 := hB0.up l1
 refine cr hm (fun _ => p121 (K := [0, 3]) (c0 := 2) (x0 := x0) b3 ((h0_0.ul a2).sub (M := [0, 3]) rfl) (o1.rd.sub (M := [0, 3]) rfl) rfl) ?_
 rintro z5 _ W7 hm l7 ⟨rfl, f7_0⟩
 have a8 := a2.t l7
 refine Ns rfl ?_
 cases hm
 exact Cw.ret (ret1 rfl (Res.mk a8 ⟨rfl, f7_0⟩))

theorem p146 {x0 g0_ v0_0_ c0 r} (hB0 : Bx W c0 g0_ [v0_0_, vI x0.p]) (h0_0 : Rd W K [v0_0_] x0.b) (hJ : okJ K [c0] = true) (hm : Vm.spec_l30Line x0 = some r) : Q1 146 [ptr (bx g0_)] W [c0] fun W' v => v = vS r.1 ∧ Bx W' c0 g0_ [v0_0_, vI r.2] :=
 CallR.adJ (J := [c0]) (fun c => bif Nat.beq c 0 then 0 else bif Nat.beq c 2 then c0 else 0) (c146 (hB0.viewJ 0 hJ) (h0_0.view _) hm) fun _ _ ⟨e, f0⟩ => ⟨e, Bx.backJ 0 f0 rfl⟩

theorem c130 {x0 g0_ v0_0_ r} (hB0 : Bx W0 2 g0_ [v0_0_, vI x0.p]) (h0_0 : Rd W0 [0] [v0_0_] x0.b) (hm : Vm.spec_l30Text x0 = some r) : Q0 130 [ptr (bx g0_)] W0 fun Wf v => ∃ u0, v = u0 ∧ OwS Wf [31] [] [u0] r.1 ∧ Bx Wf 2 g0_ [v0_0_, vI r.2] := by
 unfold Vm.spec_l30Text at hm
 refine CallR.of Tryd.func130 rfl rfl rfl rfl (sr (Nv (.slice none 0 0) rfl (sr (Lw.t rfl (T.lit0 (α := Str) 3 []) ?_))))
 rintro v1 _ ⟨W1, rfl, l1, o1⟩
 have a2 := l1.o
 have b3 := hB0.up l1
 refine Nv v1 rfl (ssr (mp rfl (Lw.t rfl (T.bsS (α := Int) (xs := [0, 1, 3, 5, 8]) 4 [] (W := W1) [vI 0, vI 1, vI 3, vI 5, vI 8] (Each.cons ((rdI _)) (Each.cons ((rdI _)) (Each.cons ((rdI _)) (Each.cons ((rdI _)) (Each.cons ((rdI _)) Each.nil))))) rfl) ?_)))
 rintro v4 _ ⟨W4, rfl, l4, o4⟩
 have a5 := a2.n l4
 refine cr hm (fun _ => p120 (K := [0, 4]) (c0 := 2) (x0 := x0) (b3.up l4) ((h0_0.ul a5).sub (M := [0, 4]) rfl) (o4.rd.sub (M := [0, 4]) rfl) rfl) ?_
 rintro z9 _ W11 hm l11 ⟨rfl, f11_0⟩
 have a12 := a5.t l11
 refine Ni rfl (Cw.block ?_)
 obtain ⟨K22, hK22, hm⟩ := jn_e hm
 refine Cw.loop 9 17 [3, 4] (fun m l w => ∃ y15 y18 y19 v16 W21, CW.w W21 = w ∧ Le [2, 3] W11 W21 ∧ l = [v16, vI y18] ∧ Ow W21 3 [] [v16] y15 ∧ Bx W21 2 g0_ [v0_0_, vI y19] ∧ Vm.spec_l30Text_l1 x0 K22 m y15 y18 y19 = some r) _ ⟨([] : List Str), z9.1, z9.2, v1, W11, rfl, Le.refl _ _, rfl, ((o1.up l4).up l11), f11_0, hm⟩ ?_
 rintro (_ | m23) _ _ σ ⟨y15, y18, y19, v16, W21, rfl, l21, rfl, o17, b20, hm⟩
 ·cases hm
 unfold Vm.spec_l30Text_l1 at hm
 have a24 := a12.t l21
 refine ssr (mi rfl (Lw.gt rfl (nl (cn hm (fun hm => ?_) fun hm => ?_))))
 ·refine sk (Cw.seq (Cw.block (rg (mv v16 rfl (mp rfl (cr hm (fun _ => p146 (c0 := 2) (x0 := (Vm.l30Rd.mk x0.b y19)) b20 (h0_0.ul a24) rfl) ?_))))))
  rintro z28 _ W30 hm l30 ⟨rfl, f30_0⟩
  refine Lw.t rfl (T.bs 5 [vS z28.1] (cs := [vS z28.1]) rfl rfl (bsv rfl)) ?_
  rintro _ _ ⟨g34, W34, rfl, rfl, l34, b34⟩
  obtain ⟨q39, e40, hm⟩ := ob hm
  refine Lw.t rfl (T.app1S (α := Str) (K' := []) ((o17.up l30).up l34) b34 (rdS _) rfl rfl e40) ?_
  rintro v41 _ ⟨W41, rfl, l41, o41⟩
  exact Nv v41 rfl (rg (mi rfl (Lw.sub rfl (Ni rfl ((agm) ⟨q39, w64 (y18 - 1), z28.2, v41, W41, rfl, (((l21.j l30).j l34).j l41).w, rfl, o41, ((f30_0.up l34).up l41), hm⟩)))))
 ·refine Cw.exit ?_
  rw [hK22] at hm
  refine sr (mv v16 rfl (Nv v16 rfl ?_))
  obtain ⟨W46, ew46, l46, o46⟩ := o17.dyeO 31
  have a47 := a24.t l46
  cases hm
  rw [← ew46]
  exact Cw.ret (ret1 rfl (Res.mk a47 ⟨v16, rfl, o46.s, (b20.up l46)⟩))

theorem p130 {x0 g0_ v0_0_ k0 c0 r} (hB0 : Bx W c0 g0_ [v0_0_, vI x0.p]) (h0_0 : Rd W K [v0_0_] x0.b) (hJ : okJ K [c0] = true) (hm : Vm.spec_l30Text x0 = some r) : Q1 130 [ptr (bx g0_)] W [c0] fun W' v => ∃ u0, v = u0 ∧ Ow W' k0 [] [u0] r.1 ∧ Bx W' c0 g0_ [v0_0_, vI r.2] :=
 CallR.adJ (J := [c0]) (fun c => bif Nat.beq c 0 then 0 else bif Nat.beq c 2 then c0 else bif Nat.beq c 31 then k0 else 0) (c130 (hB0.viewJ 0 hJ) (h0_0.view _) hm) fun _ _ ⟨u0, e, f0, f1⟩ => ⟨u0, e, f0.one1.backN rfl, Bx.backJ 0 f1 rfl⟩

theorem c93 {x0 g0_ v0_0_ r} (hB0 : Bx W0 2 g0_ [v0_0_, vI x0.p]) (h0_0 : Rd W0 [0] [v0_0_] x0.b) (hm : Vm.spec_l30Op x0 = some r) : Q0 93 [ptr (bx g0_)] W0 fun Wf v => ∃ u0_6, v = .agg [vI r.1.Kind, vS r.1.Branch, vS r.1.Who, vS r.1.Path, vS r.1.To, vI r.1.At, u0_6].toArray ∧ OwS Wf [31] [] [u0_6] r.1.Text ∧ Bx Wf 2 g0_ [v0_0_, vI r.2] := by
 unfold Vm.spec_l30Op at hm
 refine CallR.of Tryd.func93 rfl rfl rfl rfl (sr (al 3 [vI 0, vS ([] : Str), vS ([] : Str), vS ([] : Str), vS ([] : Str), vI 0, .slice none 0 0] fun g1 W1 l1 b1 => ?_))
 have a2 := l1.o
 have b3 := hB0.up l1
 refine nl (sr (mp rfl (cr hm (fun _ => p128 (c0 := 2) (x0 := x0) b3 (h0_0.ul a2) rfl) ?_)))
 rintro z5 _ W7 hm l7 ⟨rfl, f7_0⟩
 have a8 := a2.t l7
 refine mp rfl (Lw.t rfl (T.bsS (α := Str) (xs := [([97, 110, 110] : Str), ([98, 111, 98] : Str), ([99, 105, 100] : Str)]) 4 [] (W := W7) [vS ([97, 110, 110] : Str), vS ([98, 111, 98] : Str), vS ([99, 105, 100] : Str)] (Each.cons ((rdS _)) (Each.cons ((rdS _)) (Each.cons ((rdS _)) Each.nil))) rfl) ?_)
 rintro v10 _ ⟨W10, rfl, l10, o10⟩
 have a11 := a8.n l10
 refine cr hm (fun _ => p121 (K := [0, 4]) (c0 := 2) (x0 := (Vm.l30Rd.mk x0.b z5.2)) (f7_0.up l10) ((h0_0.ul a11).sub (M := [0, 4]) rfl) (o10.rd.sub (M := [0, 4]) rfl) rfl) ?_
 rintro z15 _ W17 hm l17 ⟨rfl, f17_0⟩
 have a18 := a11.t l17
 refine Lw.r rfl (R.bd (zs := [vI 0, vS ([] : Str), vS ([] : Str), vS ([] : Str), vS ([] : Str), vI 0, .slice none 0 0]) (cs := [vI 0, vS z5.1, vS z15.1, vS ([] : Str), vS ([] : Str), vI 0, .slice none 0 0]) [(1, vS z5.1), (2, vS z15.1)] rfl rfl rfl (bp_cons rfl rfl (bp_cons rfl rfl bp_nil))) (al 5 [vI 0, vS ([] : Str), vS ([] : Str), vS ([] : Str), vS ([] : Str), vI 0, .slice none 0 0] fun g21 W21 l21 b21 => ?_)
 have a22 := a18.n l21
 refine sta b21 (oc_cons rfl (oc_cons rfl (oc_cons rfl (oc_cons rfl (oc_cons rfl (oc_cons rfl (oc_cons rfl oc_nil))))))) fun W26 l26 b26 => ?_
 have a27 := a22.t l26
 refine nl ?_
 obtain ⟨K44, hK44, hm⟩ := jn_e hm
 refine Cw.join 10 61 [] (fun l w => ∃ y31 y33 y34 y35 y36 y37 y38 y39 v40 W43, CW.w W43 = w ∧ Le [2, 5, 8] W26 W43 ∧ l = [] ∧ Bx W43 2 g0_ [v0_0_, vI y31] ∧ Ow W43 6 [] [v40] y39 ∧ Bx W43 5 g21 [vI y33, vS y34, vS y35, vS y36, vS y37, vI y38, v40] ∧ K44 y31 y33 y34 y35 y36 y37 y38 y39 = some r) ?_ ?_
 ·rintro _ _ σ ⟨y31, y33, y34, y35, y36, y37, y38, y39, v40, W43, rfl, l43, rfl, b32, o41, b42, hm⟩
  rw [hK44] at hm
  have a45 := a27.t l43
  refine sr (la b42 (sta ((((((b1.up l7).up l10).up l17).up l21).up l26).up l43) (oc_cons rfl (oc_cons rfl (oc_cons rfl (oc_cons rfl (oc_cons rfl (oc_cons rfl (oc_cons o41.oc oc_nil))))))) fun W48 l48 b48 => ?_))
  have a49 := a45.t l48
  refine nl ?_
  obtain ⟨W54, ew54, l54, o54⟩ := (o41.up l48).dyeO 31
  have a55 := a49.t l54
  cases hm
  rw [← ew54]
  exact Cw.ret (retA1 rfl (b48.up l54) (Res.mk a55 ⟨v40, rfl, o54.s, ((b32.up l48).up l54)⟩))
 ·refine sr (mp rfl (cr hm (fun _ => p94 (c0 := 2) (x0 := (Vm.l30Rd.mk x0.b z15.2)) ((f17_0.up l21).up l26) (h0_0.ul a27) rfl) ?_))
  rintro z61 _ W63 hm l63 ⟨rfl, f63_0⟩
  have a64 := a27.t l63
  have b67 := b26.up l63
  refine nl (Cw.block (sr (Lw.eq rfl (Nb rfl (cn hm (fun hm => ?_) fun hm => ?_)))))
  ·refine sr (Lw.fa rfl (Lw.u (T.st (j := 0) (v := vI 2) b67 rfl rfl rfl rfl rfl) ?_))
   rintro _ _ ⟨W69, rfl, l69, b69⟩
   have a70 := a64.t l69
   refine nl (rg (mp rfl (cr hm (fun _ => p129 (c0 := 2) (x0 := (Vm.l30Rd.mk x0.b z61.2)) (f63_0.up l69) (h0_0.ul a70) rfl) ?_)))
   rintro z75 _ W77 hm l77 ⟨rfl, f77_0⟩
   refine Lw.fa rfl (Lw.u (T.st (j := 3) (v := vS z75.1) (b69.up l77) rfl rfl rfl rfl rfl) ?_)
   rintro _ _ ⟨W82, rfl, l82, b82⟩
   exact nl ((ag) ⟨z75.2, 2, z5.1, z15.1, z75.1, ([] : Str), 0, ([] : List Str), .slice none 0 0, W82, rfl, (((l63.j l69).j l77).j l82).w, rfl, (f77_0.up l82), owN 6 [], b82, hm⟩)
  ·refine sr (Lw.eq rfl (Nb rfl (cn hm (fun hm => ?_) fun hm => ?_)))
   ·refine sr (Lw.fa rfl (Lw.u (T.st (j := 0) (v := vI 3) b67 rfl rfl rfl rfl rfl) ?_))
    rintro _ _ ⟨W88, rfl, l88, b88⟩
    have a89 := a64.t l88
    refine nl (sr (mp rfl (cr hm (fun _ => p129 (c0 := 2) (x0 := (Vm.l30Rd.mk x0.b z61.2)) (f63_0.up l88) (h0_0.ul a89) rfl) ?_)))
    rintro z94 _ W96 hm l96 ⟨rfl, f96_0⟩
    have a97 := a89.t l96
    refine Lw.fa rfl (Lw.u (T.st (j := 3) (v := vS z94.1) (b88.up l96) rfl rfl rfl rfl rfl) ?_)
    rintro _ _ ⟨W101, rfl, l101, b101⟩
    have a102 := a97.t l101
    refine nl (rg (mp rfl (cr hm (fun _ => p129 (c0 := 2) (x0 := (Vm.l30Rd.mk x0.b z94.2)) (f96_0.up l101) (h0_0.ul a102) rfl) ?_)))
    rintro z107 _ W109 hm l109 ⟨rfl, f109_0⟩
    refine Lw.fa rfl (Lw.u (T.st (j := 4) (v := vS z107.1) (b101.up l109) rfl rfl rfl rfl rfl) ?_)
    rintro _ _ ⟨W114, rfl, l114, b114⟩
    exact nl ((ag) ⟨z107.2, 3, z5.1, z15.1, z94.1, z107.1, 0, ([] : List Str), .slice none 0 0, W114, rfl, (((((l63.j l88).j l96).j l101).j l109).j l114).w, rfl, (f109_0.up l114), owN 6 [], b114, hm⟩)
   ·obtain ⟨K121, hK121, hm⟩ := jn_e hm
    refine Cw.join 34 36 [34] (fun l w => ∃ y119 W120, CW.w W120 = w ∧ Le [] W63 W120 ∧ l = [vB y119] ∧ K121 y119 = some r) ?_ ?_
    ·rintro _ _ σ ⟨y119, W120, rfl, l120, rfl, hm⟩
     rw [hK121] at hm
     have a122 := a64.n l120
     refine cn hm (fun hm => ?_) fun hm => ?_
     ·refine sr (Lw.fa rfl (Lw.u (T.st (j := 0) (v := vI 4) (b67.up l120) rfl rfl rfl rfl rfl) ?_))
      rintro _ _ ⟨W128, rfl, l128, b128⟩
      have a129 := a122.t l128
      refine nl (rg (mp rfl (Lw.t rfl (T.bsS (α := Str) (xs := [([115, 105, 100, 101] : Str), ([100, 101, 118] : Str), ([111, 108, 100] : Str)]) 7 [] (W := W128) [vS ([115, 105, 100, 101] : Str), vS ([100, 101, 118] : Str), vS ([111, 108, 100] : Str)] (Each.cons ((rdS _)) (Each.cons ((rdS _)) (Each.cons ((rdS _)) Each.nil))) rfl) ?_)))
      rintro v133 _ ⟨W133, rfl, l133, o133⟩
      have a134 := a129.n l133
      refine cr hm (fun _ => p121 (K := [0, 7]) (c0 := 2) (x0 := (Vm.l30Rd.mk x0.b z61.2)) (((f63_0.up l120).up l128).up l133) ((h0_0.ul a134).sub (M := [0, 7]) rfl) (o133.rd.sub (M := [0, 7]) rfl) rfl) ?_
      rintro z140 _ W142 hm l142 ⟨rfl, f142_0⟩
      refine Lw.fa rfl (Lw.u (T.st (j := 4) (v := vS z140.1) ((b128.up l133).up l142) rfl rfl rfl rfl rfl) ?_)
      rintro _ _ ⟨W148, rfl, l148, b148⟩
      exact nl ((ag) ⟨z140.2, 4, z5.1, z15.1, ([] : Str), z140.1, 0, ([] : List Str), .slice none 0 0, W148, rfl, (((((l63.j l120).j l128).j l133).j l142).j l148).w, rfl, (f142_0.up l148), owN 6 [], b148, hm⟩)
     ·obtain ⟨K156, hK156, hm⟩ := jn_e hm
      refine Cw.join 42 45 [42] (fun l w => ∃ y154 W155, CW.w W155 = w ∧ Le [] W120 W155 ∧ l = [vB y154] ∧ K156 y154 = some r) ?_ ?_
      ·rintro _ _ σ ⟨y154, W155, rfl, l155, rfl, hm⟩
       rw [hK156] at hm
       have a157 := a122.n l155
       have b159 := (f63_0.up l120).up l155
       have b161 := (b67.up l120).up l155
       refine cn hm (fun hm => ?_) fun hm => ?_
       ·refine sr (Lw.fa rfl (Lw.u (T.st (j := 0) (v := vI 5) b161 rfl rfl rfl rfl rfl) ?_))
        rintro _ _ ⟨W163, rfl, l163, b163⟩
        have a164 := a157.t l163
        refine nl (rg (mp rfl (cr hm (fun _ => p128 (c0 := 2) (x0 := (Vm.l30Rd.mk x0.b z61.2)) (b159.up l163) (h0_0.ul a164) rfl) ?_)))
        rintro z169 _ W171 hm l171 ⟨rfl, f171_0⟩
        refine Lw.fa rfl (Lw.u (T.st (j := 4) (v := vS z169.1) (b163.up l171) rfl rfl rfl rfl rfl) ?_)
        rintro _ _ ⟨W176, rfl, l176, b176⟩
        exact nl ((ag) ⟨z169.2, 5, z5.1, z15.1, ([] : Str), z169.1, 0, ([] : List Str), .slice none 0 0, W176, rfl, (((((l63.j l120).j l155).j l163).j l171).j l176).w, rfl, (f171_0.up l176), owN 6 [], b176, hm⟩)
       ·refine sr (Lw.eq rfl (Nb rfl (cn hm (fun hm => ?_) fun hm => ?_)))
        ·refine sr (Lw.fa rfl (Lw.u (T.st (j := 0) (v := vI 6) b161 rfl rfl rfl rfl rfl) ?_))
         rintro _ _ ⟨W182, rfl, l182, b182⟩
         have a183 := a157.t l182
         refine nl (rg (mp rfl (cr hm (fun _ => p94 (c0 := 2) (x0 := (Vm.l30Rd.mk x0.b z61.2)) (b159.up l182) (h0_0.ul a183) rfl) ?_)))
         rintro z188 _ W190 hm l190 ⟨rfl, f190_0⟩
         refine Lw.fa rfl (Lw.u (T.st (j := 5) (v := vI z188.1) (b182.up l190) rfl rfl rfl rfl rfl) ?_)
         rintro _ _ ⟨W195, rfl, l195, b195⟩
         exact nl ((ag) ⟨z188.2, 6, z5.1, z15.1, ([] : Str), ([] : Str), z188.1, ([] : List Str), .slice none 0 0, W195, rfl, (((((l63.j l120).j l155).j l182).j l190).j l195).w, rfl, (f190_0.up l195), owN 6 [], b195, hm⟩)
        ·refine sr (Lw.eq rfl (Nb rfl (cn hm (fun hm => ?_) fun hm => ?_)))
         ·refine sr (Lw.fa rfl (Lw.u (T.st (j := 0) (v := vI 7) b161 rfl rfl rfl rfl rfl) ?_))
          rintro _ _ ⟨W201, rfl, l201, b201⟩
          have a202 := a157.t l201
          refine nl (rg (mp rfl (cr hm (fun _ => p94 (c0 := 2) (x0 := (Vm.l30Rd.mk x0.b z61.2)) (b159.up l201) (h0_0.ul a202) rfl) ?_)))
          rintro z207 _ W209 hm l209 ⟨rfl, f209_0⟩
          refine Lw.fa rfl (Lw.u (T.st (j := 5) (v := vI z207.1) (b201.up l209) rfl rfl rfl rfl rfl) ?_)
          rintro _ _ ⟨W214, rfl, l214, b214⟩
          exact nl ((ag) ⟨z207.2, 7, z5.1, z15.1, ([] : Str), ([] : Str), z207.1, ([] : List Str), .slice none 0 0, W214, rfl, (((((l63.j l120).j l155).j l201).j l209).j l214).w, rfl, (f209_0.up l214), owN 6 [], b214, hm⟩)
         ·refine sr (Lw.fa rfl (Lw.u (T.st (j := 0) (v := vI 1) b161 rfl rfl rfl rfl rfl) ?_))
          rintro _ _ ⟨W219, rfl, l219, b219⟩
          have a220 := a157.t l219
          refine nl (sr (mp rfl (cr hm (fun _ => p129 (c0 := 2) (x0 := (Vm.l30Rd.mk x0.b z61.2)) (b159.up l219) (h0_0.ul a220) rfl) ?_)))
          rintro z225 _ W227 hm l227 ⟨rfl, f227_0⟩
          have a228 := a220.t l227
          refine Lw.fa rfl (Lw.u (T.st (j := 3) (v := vS z225.1) (b219.up l227) rfl rfl rfl rfl rfl) ?_)
          rintro _ _ ⟨W232, rfl, l232, b232⟩
          have a233 := a228.t l232
          refine nl (rg (mp rfl (cr hm (fun _ => p130 (k0 := 8) (c0 := 2) (x0 := (Vm.l30Rd.mk x0.b z225.2)) (f227_0.up l232) (h0_0.ul a233) rfl) ?_)))
          rintro z238 v0_240 W240 hm l240 ⟨_, rfl, f240_0, f240_1⟩
          refine Lw.fa rfl (Lw.u (T.st (j := 6) (v := v0_240) (b232.up l240) rfl rfl f240_0.oc rfl rfl) ?_)
          rintro _ _ ⟨W245, rfl, l245, b245⟩
          refine nl ?_
          obtain ⟨W251, ew251, l251, o251⟩ := (f240_0.up l245).dyeO 6
          exact (ag) ⟨z238.2, 1, z5.1, z15.1, z225.1, ([] : Str), 0, z238.1, v0_240, W251, ew251, ((((((((l63.j l120).j l155).j l219).j l227).j l232).j l240).j l245).j l251).w, rfl, ((f240_1.up l245).up l251), o251, (b245.up l251), hm⟩
      ·refine sr (Lw.eq rfl (Nb rfl (cn hm (fun hm => ?_) fun hm => ?_)))
       ·exact sk ((ag) ⟨((z61.1 : Int) == (4 : Int)), W120, rfl, Le.refl _ _, rfl, hm⟩)
       ·refine sr (Lw.eq rfl (Nb rfl (cn hm (fun hm => ?_) fun hm => ?_)))
        ·exact sk ((ag) ⟨((z61.1 : Int) == (5 : Int)), W120, rfl, Le.refl _ _, rfl, hm⟩)
        ·exact rg (Lw.eq rfl (Nb rfl ((ag) ⟨((z61.1 : Int) == (6 : Int)), W120, rfl, Le.refl _ _, rfl, hm⟩)))
    ·refine sr (Lw.eq rfl (Nb rfl (cn hm (fun hm => ?_) fun hm => ?_)))
     ·exact sk ((ag) ⟨((z61.1 : Int) == (2 : Int)), W63, rfl, Le.refl _ _, rfl, hm⟩)
     ·exact rg (Lw.eq rfl (Nb rfl ((ag) ⟨((z61.1 : Int) == (3 : Int)), W63, rfl, Le.refl _ _, rfl, hm⟩)))

theorem p93 {x0 g0_ v0_0_ k0 c0 r} (hB0 : Bx W c0 g0_ [v0_0_, vI x0.p]) (h0_0 : Rd W K [v0_0_] x0.b) (hJ : okJ K [c0] = true) (hm : Vm.spec_l30Op x0 = some r) : Q1 93 [ptr (bx g0_)] W [c0] fun W' v => ∃ u0_6, v = .agg [vI r.1.Kind, vS r.1.Branch, vS r.1.Who, vS r.1.Path, vS r.1.To, vI r.1.At, u0_6].toArray ∧ Ow W' k0 [] [u0_6] r.1.Text ∧ Bx W' c0 g0_ [v0_0_, vI r.2] :=
 CallR.adJ (J := [c0]) (fun c => bif Nat.beq c 0 then 0 else bif Nat.beq c 2 then c0 else bif Nat.beq c 31 then k0 else 0) (c93 (hB0.viewJ 0 hJ) (h0_0.view _) hm) fun _ _ ⟨u0_6, e, f0, f1⟩ => ⟨u0_6, e, f0.one1.backN rfl, Bx.backJ 0 f1 rfl⟩

theorem c69 {x0 x1 x2 r} (hm : Vm.impl_within x0 x1 x2 = some r) : Q0 69 [vI x0, vI x1, vI x2] W0 fun Wf v => v = vB r := by
 unfold Vm.impl_within at hm
 refine CallR.of Tryd.func69 rfl rfl rfl rfl (sr (Nb rfl ?_))
 obtain ⟨K3, hK3, hm⟩ := jn_e hm
 refine Cw.join 7 14 [6] (fun l w => ∃ y1 W2, CW.w W2 = w ∧ Le [] W0 W2 ∧ l = [vB y1] ∧ K3 y1 = some r) ?_ ?_
 ·rintro _ _ σ ⟨y1, W2, rfl, l2, rfl, hm⟩
  rw [hK3] at hm
  have a4 := l2.o
  exact .ret (rt hm a4)
 ·refine rg (mi rfl (mi rfl (Lw.le rfl (mb rfl (bs hm (fun hc5 hm => ?_) fun hc5 hm => ?_)))))
  ·exact wak 3 hc5 (mi rfl (mi rfl (Lw.le rfl (Pb hc5 rfl (Nb rfl ((ag) ⟨decide ((x0 : Int) ≤ (x2 : Int)), W0, rfl, Le.refl _ _, rfl, hm⟩))))))
  ·exact psk 3 hc5 rfl (Pb hc5 rfl (Nb rfl ((ag) ⟨false, W0, rfl, Le.refl _ _, rfl, hm⟩)))

theorem p69 {x0 x1 x2 r} (hm : Vm.impl_within x0 x1 x2 = some r) : Q1 69 [vI x0, vI x1, vI x2] W [] fun W' v => v = vB r :=
 (c69 (W0 := W.view [] [])  hm).ad (fk 0) fun _ _ e => e

theorem c122 {x0 r} (hm : Vm.impl_wordByte x0 = some r) : Q0 122 [.int .u8 (UInt8.toNat x0 : Int)] W0 fun Wf v => v = vB r := by
 unfold Vm.impl_wordByte at hm
 refine CallR.of Tryd.func122 rfl rfl rfl rfl (sr (Nb rfl ?_))
 obtain ⟨K3, hK3, hm⟩ := jn_e hm
 refine Cw.join 3 16 [2] (fun l w => ∃ y1 W2, CW.w W2 = w ∧ Le [] W0 W2 ∧ l = [vB y1] ∧ K3 y1 = some r) ?_ ?_
 ·rintro _ _ σ ⟨y1, W2, rfl, l2, rfl, hm⟩
  rw [hK3] at hm
  have a4 := l2.o
  exact .ret (rt hm a4)
 ·refine rg (mv (.int .u8 (UInt8.toNat x0 : Int)) rfl (Lw.ge rfl (mb rfl (bs hm (fun hc5 hm => ?_) fun hc5 hm => ?_))))
  ·refine wak 2 hc5 (mv (.int .u8 (UInt8.toNat x0 : Int)) rfl (Lw.le rfl (Pb hc5 rfl (mb rfl (bs hm (fun hc6 hm => ?_) fun hc6 hm => ?_)))))
   ·exact psk 3 hc6 rfl (puk 2 rfl (psk 1 hc6 rfl (Pb hc6 rfl (Nb rfl ((ag) ⟨true, W0, rfl, Le.refl _ _, rfl, hm⟩)))))
   ·refine wak 3 hc6 (mv (.int .u8 (UInt8.toNat x0 : Int)) rfl (Lw.ge rfl (mb rfl (bs hm (fun hc7 hm => ?_) fun hc7 hm => ?_))))
    ·exact wak 2 hc7 (mv (.int .u8 (UInt8.toNat x0 : Int)) rfl (Lw.le rfl (wak 1 hc6 (Pb hc7 rfl (Pb hc6 rfl (Nb rfl ((ag) ⟨decide (((UInt8.toNat x0 : Int) : Int) ≤ (57 : Int)), W0, rfl, Le.refl _ _, rfl, hm⟩)))))))
    ·exact psk 2 hc7 rfl (wak 1 hc6 (Pb hc7 rfl (Pb hc6 rfl (Nb rfl ((ag) ⟨false, W0, rfl, Le.refl _ _, rfl, hm⟩)))))
  ·refine psk 2 hc5 rfl (Pb hc5 rfl (mb rfl (wak 3 rfl (mv (.int .u8 (UInt8.toNat x0 : Int)) rfl (Lw.ge rfl (mb rfl (bs hm (fun hc8 hm => ?_) fun hc8 hm => ?_)))))))
   ·exact wak 2 hc8 (mv (.int .u8 (UInt8.toNat x0 : Int)) rfl (Lw.le rfl (wak 1 rfl (Pb hc8 rfl (Pb rfl rfl (Nb rfl ((ag) ⟨decide (((UInt8.toNat x0 : Int) : Int) ≤ (57 : Int)), W0, rfl, Le.refl _ _, rfl, hm⟩)))))))
   ·exact psk 2 hc8 rfl (wak 1 rfl (Pb hc8 rfl (Pb rfl rfl (Nb rfl ((ag) ⟨false, W0, rfl, Le.refl _ _, rfl, hm⟩)))))

theorem p122 {x0 r} (hm : Vm.impl_wordByte x0 = some r) : Q1 122 [.int .u8 (UInt8.toNat x0 : Int)] W [] fun W' v => v = vB r :=
 (c122 (W0 := W.view [] [])  hm).ad (fk 0) fun _ _ e => e

theorem c87 {x0 r} (hm : Vm.impl_nameOk x0 = some r) : Q0 87 [vS x0] W0 fun Wf v => v = vB r := by
 unfold Vm.impl_nameOk at hm
 refine CallR.of Tryd.func87 rfl rfl rfl rfl (sr (Nb rfl (ssr (ms rfl (Lw.r rfl (R.lenS rfl) (ca hm (fun _ => p69) fun z1 W3 hm l3 => ?_))))))
 have a4 := l3.o
 refine Lw.r rfl (R.not rfl) (nl (cn hm (fun hm => ?_) fun hm => ?_))
 ·exact sr (Nb rfl (.ret (rt hm a4)))
 ·refine sk (ssr (Ni rfl (Cw.block ?_)))
  obtain ⟨K9, hK9, hm⟩ := jn_e hm
  refine Cw.loop 8 18 [2, 3] (fun m l w => ∃ y6 y7 W8, CW.w W8 = w ∧ Le [] W3 W8 ∧ l = [vB y6, vI y7] ∧ Vm.impl_nameOk_l1 x0 K9 m y6 y7 = some r) _ ⟨false, 0, W3, rfl, Le.refl _ _, rfl, hm⟩ ?_
  rintro (_ | m10) _ _ σ ⟨y6, y7, W8, rfl, l8, rfl, hm⟩
  ·cases hm
  unfold Vm.impl_nameOk_l1 at hm
  have a11 := a4.n l8
  refine ssr (mi rfl (ms rfl (Lw.r rfl (R.lenS rfl) (Lw.lt rfl (nl (cn hm (fun hm => ?_) fun hm => ?_))))))
  ·refine sk (Cw.seq (Cw.block (sr (ms rfl (mi rfl ?_)))))
   obtain ⟨u13, e14, hm⟩ := ob hm
   refine Lw.r rfl (R.chm e14 rfl rfl) (ca hm (fun _ => p122) fun z15 W17 hm l17 => ?_)
   have a18 := a11.n l17
   refine Lw.r rfl (R.not rfl) (nl (cn hm (fun hm => ?_) fun hm => ?_))
   ·exact sr (Nb rfl (.ret (rt hm a18)))
   ·exact sk (rg (mi rfl (Lw.add rfl (Ni rfl ((agm) ⟨y6, w64 (y7 + 1), W17, rfl, (l8.j l17).w, rfl, hm⟩)))))
  ·refine Cw.exit ?_
   rw [hK9] at hm
   exact sr (Nb rfl (.ret (rt hm a11)))

theorem p87 {x0 r} (hm : Vm.impl_nameOk x0 = some r) : Q1 87 [vS x0] W [] fun W' v => v = vB r :=
 (c87 (W0 := W.view [] [])  hm).ad (fk 0) fun _ _ e => e

theorem c88 {x0 r} (h99 : Gk 2 0 1 W0 [0]) (hm : Vm.impl_PathOk x0 = some r) : Q0 88 [vS x0] W0 fun Wf v => v = vB r := by
 unfold Vm.impl_PathOk at hm
 refine CallR.of Tryd.func88 rfl rfl rfl rfl (sr (Nb rfl (sr (ms rfl (cr hm (fun _ => p80 (k0 := 2) h99) ?_)))))
 rintro z1 v0_3 W3 hm l3 ⟨_, rfl, f3_0⟩
 have a4 := l3.o
 refine Nv v0_3 rfl (ssr (mv v0_3 rfl (Lw.ln z1 f3_0.rd rfl (Lw.gt rfl (nl (cn hm (fun hm => ?_) fun hm => ?_))))))
 ·exact sr (Nb rfl (.ret (rt hm a4)))
 ·refine sk (ssr (mv v0_3 rfl (Lw.ln z1 f3_0.rd rfl (mi rfl (nl (Cw.block ?_))))))
  obtain ⟨K10, hK10, hm⟩ := jn_e hm
  refine Cw.loop 13 20 [2, 5, 13] (fun m l w => ∃ y6 y8 j7 W9, CW.w W9 = w ∧ Le [] W3 W9 ∧ l = [vB y6, j7, vI y8] ∧ Vm.impl_PathOk_l1 z1 K10 m y6 y8 = some r) _ ⟨false, 0, undef, W3, rfl, Le.refl _ _, rfl, hm⟩ ?_
  rintro (_ | m11) _ _ σ ⟨y6, y8, j7, W9, rfl, l9, rfl, hm⟩
  ·cases hm
  unfold Vm.impl_PathOk_l1 at hm
  have a12 := a4.n l9
  refine sr (Lw.lt rfl (nl (Cw.seq (cn hm (fun hm => ?_) fun hm => ?_))))
  ·refine sk (Cw.seq (Cw.block (sr ?_)))
   obtain ⟨u15, e16, hm⟩ := ob hm
   refine Lw.r rfl (R.ix (α := Str) (f3_0.up l9).rd e16 rfl rfl rfl) (Lw.r rfl (R.ld rfl rfl ((f3_0.up l9).rd.at_ e16).str) (Ns rfl (sr (ms rfl (ca hm (fun _ => p87) fun z17 W19 hm l19 => ?_)))))
   have a20 := a12.n l19
   refine Lw.r rfl (R.not rfl) (nl (cn hm (fun hm => ?_) fun hm => ?_))
   ·exact sr (Nb rfl (.ret (rt hm a20)))
   ·exact sk (rg (Lw.add rfl (mi rfl (nl ((agm) ⟨y6, w64 (y8 + 1), vS u15, W19, rfl, (l9.j l19).w, rfl, hm⟩)))))
  ·refine Cw.exit ?_
   rw [hK10] at hm
   exact sr (Nb rfl (.ret (rt hm a12)))

theorem p88 {x0 r} (h99 : Gk 2 0 1 W K) (hm : Vm.impl_PathOk x0 = some r) : Q1 88 [vS x0] W [] fun W' v => v = vB r :=
 (c88 (h99.view _) hm).ad (fk 0) fun _ _ e => e

theorem c123 {x0 r} (hm : Vm.impl_lineOk x0 = some r) : Q0 123 [vS x0] W0 fun Wf v => v = vB r := by
 unfold Vm.impl_lineOk at hm
 refine CallR.of Tryd.func123 rfl rfl rfl rfl (sr (Nb rfl (ssr (ms rfl (Lw.r rfl (R.lenS rfl) (Lw.gt rfl (nl (cn hm (fun hm => ?_) fun hm => ?_))))))))
 ·exact sr (Nb rfl (.ret (rt hm (Le.refl _ _))))
 ·refine sk (ssr (Ni rfl (Cw.block ?_)))
  obtain ⟨K5, hK5, hm⟩ := jn_e hm
  refine Cw.loop 7 22 [2, 3] (fun m l w => ∃ y2 y3 W4, CW.w W4 = w ∧ Le [] W0 W4 ∧ l = [vB y2, vI y3] ∧ Vm.impl_lineOk_l1 x0 K5 m y2 y3 = some r) _ ⟨false, 0, W0, rfl, Le.refl _ _, rfl, hm⟩ ?_
  rintro (_ | m6) _ _ σ ⟨y2, y3, W4, rfl, l4, rfl, hm⟩
  ·cases hm
  unfold Vm.impl_lineOk_l1 at hm
  have a7 := l4.o
  refine ssr (mi rfl (ms rfl (Lw.r rfl (R.lenS rfl) (Lw.lt rfl (nl (cn hm (fun hm => ?_) fun hm => ?_))))))
  ·refine sk (Cw.seq (Cw.block ?_))
   obtain ⟨K11, hK11, hm⟩ := jn_e hm
   refine Cw.join 13 22 [22] (fun l w => ∃ y9 W10, CW.w W10 = w ∧ Le [] W4 W10 ∧ l = [vB y9] ∧ K11 y9 = some r) ?_ ?_
   ·rintro _ _ σ ⟨y9, W10, rfl, l10, rfl, hm⟩
    rw [hK11] at hm
    have a12 := a7.n l10
    refine cn hm (fun hm => ?_) fun hm => ?_
    ·exact sr (Nb rfl (.ret (rt hm a12)))
    ·exact sk (rg (mi rfl (Lw.add rfl (Ni rfl ((agm) ⟨y2, w64 (y3 + 1), W10, rfl, (l4.j l10).w, rfl, hm⟩)))))
   ·refine rg (ms rfl (mi rfl ?_))
    obtain ⟨u14, e15, hm⟩ := ob hm
    refine Lw.r rfl (R.chm e15 rfl rfl) (Lw.lt rfl (mb rfl (bs hm (fun hc16 hm => ?_) fun hc16 hm => ?_)))
    ·exact psk 4 hc16 rfl (Pb hc16 rfl (nl ((ag) ⟨true, W4, rfl, Le.refl _ _, rfl, hm⟩)))
    ·refine wak 4 hc16 (ms rfl (mi rfl ?_))
     obtain ⟨u17, e18, hm⟩ := ob hm
     exact Lw.r rfl (R.chm e18 rfl rfl) (Lw.gt rfl (Pb hc16 rfl (nl ((ag) ⟨decide ((126 : Int) < ((UInt8.toNat u17 : Int) : Int)), W4, rfl, Le.refl _ _, rfl, hm⟩))))
  ·refine Cw.exit ?_
   rw [hK5] at hm
   exact sr (Nb rfl (.ret (rt hm a7)))

theorem p123 {x0 r} (hm : Vm.impl_lineOk x0 = some r) : Q1 123 [vS x0] W [] fun W' v => v = vB r :=
 (c123 (W0 := W.view [] [])  hm).ad (fk 0) fun _ _ e => e

theorem c89 {x0 v0_ r} (h0 : Rd W0 [0] [v0_] x0) (hm : Vm.impl_TextOk x0 = some r) : Q0 89 [v0_] W0 fun Wf v => v = vB r := by
 unfold Vm.impl_TextOk at hm
 refine CallR.of Tryd.func89 rfl rfl rfl rfl (sr (Nb rfl (ssr (mv v0_ rfl (Lw.ln x0 h0 rfl (Lw.gt rfl (nl (cn hm (fun hm => ?_) fun hm => ?_))))))))
 ·exact sr (Nb rfl (.ret (rt hm (Le.refl _ _))))
 ·refine sk (ssr (mv v0_ rfl (Lw.ln x0 h0 rfl (mi rfl (nl (Cw.block ?_))))))
  obtain ⟨K6, hK6, hm⟩ := jn_e hm
  refine Cw.loop 10 17 [2, 4, 10] (fun m l w => ∃ y2 y4 j3 W5, CW.w W5 = w ∧ Le [] W0 W5 ∧ l = [vB y2, j3, vI y4] ∧ Vm.impl_TextOk_l1 x0 K6 m y2 y4 = some r) _ ⟨false, 0, undef, W0, rfl, Le.refl _ _, rfl, hm⟩ ?_
  rintro (_ | m7) _ _ σ ⟨y2, y4, j3, W5, rfl, l5, rfl, hm⟩
  ·cases hm
  unfold Vm.impl_TextOk_l1 at hm
  have a8 := l5.o
  refine sr (Lw.lt rfl (nl (Cw.seq (cn hm (fun hm => ?_) fun hm => ?_))))
  ·refine sk (Cw.seq (Cw.block (sr ?_)))
   obtain ⟨u10, e11, hm⟩ := ob hm
   refine Lw.r rfl (R.ix (α := Str) (h0.ul a8) e11 rfl rfl rfl) (Lw.r rfl (R.ld rfl rfl ((h0.ul a8).at_ e11).str) (Ns rfl (sr (ms rfl (ca hm (fun _ => p123) fun z13 W15 hm l15 => ?_)))))
   have a16 := a8.n l15
   refine Lw.r rfl (R.not rfl) (nl (cn hm (fun hm => ?_) fun hm => ?_))
   ·exact sr (Nb rfl (.ret (rt hm a16)))
   ·exact sk (rg (Lw.add rfl (mi rfl (nl ((agm) ⟨y2, w64 (y4 + 1), vS u10, W15, rfl, (l5.j l15).w, rfl, hm⟩)))))
  ·refine Cw.exit ?_
   rw [hK6] at hm
   exact sr (Nb rfl (.ret (rt hm a8)))

theorem p89 {x0 v0_ r} (h0 : Rd W K [v0_] x0) (hm : Vm.impl_TextOk x0 = some r) : Q1 89 [v0_] W [] fun W' v => v = vB r :=
 (c89 (h0.view _) hm).ad (fk 0) fun _ _ e => e

theorem c36 {x0 v0_6_ r} (h0 : Rd W0 [0] [vI x0.Kind, vS x0.Branch, vS x0.Who, vS x0.Path, vS x0.To, vI x0.At, v0_6_] x0) (h99 : Gk 2 0 1 W0 [0]) (hm : Vm.impl_OpOk x0 = some r) : Q0 36 [.agg [vI x0.Kind, vS x0.Branch, vS x0.Who, vS x0.Path, vS x0.To, vI x0.At, v0_6_].toArray] W0 fun Wf v => v = vB r := by
 unfold Vm.impl_OpOk at hm
 obtain ⟨w0_0, he0, h0_6⟩ := Op.split h0
 simp only [List.cons.injEq, and_true, true_and] at he0
 obtain rfl := he0
 refine CallR.of Tryd.func36 rfl rfl rfl rfl (sr (bo 2 rfl fun g1 W1 l1 b1 => ?_))
 have a2 := l1.o
 refine Nb rfl (Cw.seq ?_)
 obtain ⟨K5, hK5, hm⟩ := jn_e hm
 refine Cw.join 7 16 [16] (fun l w => ∃ y3 W4, CW.w W4 = w ∧ Le [] W1 W4 ∧ l = [vB y3] ∧ K5 y3 = some r) ?_ ?_
 ·rintro _ _ σ ⟨y3, W4, rfl, l4, rfl, hm⟩
  rw [hK5] at hm
  have a6 := a2.n l4
  refine cn hm (fun hm => ?_) fun hm => ?_
  ·exact sr (Nb rfl (.ret (rt hm a6)))
  ·refine sk (Cw.seq (Cw.draw [] [(0, 0), (1, 1), (2, 0), (3, 0), (4, 1), (5, 0), (6, 0), (7, 1), (8, 0), (9, 0), (10, 1), (11, 0), (12, 0), (13, 0), (14, 0), (15, 0), (16, 0)] mixed (by kernel_rfl) fun W9 l9 => ?_))
   have a10 := a6.n l9
   have b11 := (b1.up l4).up l9
   refine Dfl b11 rfl rfl rfl (Mw.p rfl rfl (fun _ => R.seq rfl rfl) (Dfl b11 rfl rfl rfl (Mw.p rfl rfl (fun _ => R.seq rfl rfl) (Dfl b11 rfl rfl rfl (Mw.p rfl rfl (fun _ => R.eq rfl rfl) (Dfl b11 rfl rfl rfl (Mw.p rfl rfl (fun _ => lenR (xs := x0.Text) (h0_6.ul a10) rfl) (Mw.p rfl rfl (fun _ => R.eq rfl rfl) (Hb rfl (Hb rfl (Hb rfl (Hb rfl (Mw.nil (ssr (fl b11 rfl (nl (Cw.block (sr (Lw.eq rfl (Nb rfl (cn hm (fun hm => ?_) fun hm => ?_)))))))))))))))))))))
   ·obtain ⟨K16, hK16, hm⟩ := jn_e hm
    refine Cw.join 34 54 [2] (fun l w => ∃ y14 W15, CW.w W15 = w ∧ Le [] W9 W15 ∧ l = [vB y14] ∧ K16 y14 = some r) ?_ ?_
    ·rintro _ _ σ ⟨y14, W15, rfl, l15, rfl, hm⟩
     rw [hK16] at hm
     have a17 := a10.n l15
     exact .ret (rt hm a17)
    ·refine rg (fl b11 rfl (ca hm (fun _ => p88 (h99.ul a10)) fun z20 W22 hm l22 => ?_))
     have a23 := a10.n l22
     refine mb rfl (bs hm (fun hc25 hm => ?_) fun hc25 hm => ?_)
     ·refine wak 3 hc25 (fl (b11.up l22) rfl (ca hm (fun _ => p89 (h0_6.ul a23)) fun z27 W29 hm l29 => ?_))
      have a30 := a23.n l29
      refine Pb hc25 rfl (mb rfl (bs hm (fun hc32 hm => ?_) fun hc32 hm => ?_))
      ·refine wak 5 hc32 (fl ((b11.up l22).up l29) rfl (ca hm (fun _ => p91 (h0_6.ul a30)) fun z34 W36 hm l36 => ?_))
       have a37 := a30.n l36
       refine ca hm (fun _ => p90 (h99.ul a37)) fun z40 W42 hm l42 => Lw.r rfl (R.not rfl) (Pb hc32 rfl (mb rfl (bs hm (fun hc45 hm => ?_) fun hc45 hm => ?_)))
       ·refine wak 1 hc45 (mb rfl (Pb hc45 rfl (mb rfl (bs hm (fun hc46 hm => ?_) fun hc46 hm => ?_))))
        ·exact wak 1 hc46 (mb rfl (Pb hc46 rfl (Nb rfl ((ag) ⟨((x0.At : Int) == (0 : Int)), W42, rfl, (((l22.j l29).j l36).j l42).w, rfl, hm⟩))))
        ·exact psk 1 hc46 rfl (Pb hc46 rfl (Nb rfl ((ag) ⟨false, W42, rfl, (((l22.j l29).j l36).j l42).w, rfl, hm⟩)))
       ·exact psk 1 hc45 rfl (Pb hc45 rfl (mb rfl (psk 1 rfl rfl (Pb rfl rfl (Nb rfl ((ag) ⟨false, W42, rfl, (((l22.j l29).j l36).j l42).w, rfl, hm⟩))))))
      ·exact psk 5 hc32 rfl (Pb hc32 rfl (mb rfl (psk 1 rfl rfl (Pb rfl rfl (mb rfl (psk 1 rfl rfl (Pb rfl rfl (Nb rfl ((ag) ⟨false, W29, rfl, (l22.j l29).w, rfl, hm⟩)))))))))
     ·exact psk 3 hc25 rfl (Pb hc25 rfl (mb rfl (psk 5 rfl rfl (Pb rfl rfl (mb rfl (psk 1 rfl rfl (Pb rfl rfl (mb rfl (psk 1 rfl rfl (Pb rfl rfl (Nb rfl ((ag) ⟨false, W22, rfl, l22, rfl, hm⟩))))))))))))
   ·refine sr (Lw.eq rfl (Nb rfl (cn hm (fun hm => ?_) fun hm => ?_)))
    ·obtain ⟨K50, hK50, hm⟩ := jn_e hm
     refine Cw.join 57 68 [2] (fun l w => ∃ y48 W49, CW.w W49 = w ∧ Le [] W9 W49 ∧ l = [vB y48] ∧ K50 y48 = some r) ?_ ?_
     ·rintro _ _ σ ⟨y48, W49, rfl, l49, rfl, hm⟩
      rw [hK50] at hm
      have a51 := a10.n l49
      exact .ret (rt hm a51)
     ·refine rg (fl b11 rfl (ca hm (fun _ => p88 (h99.ul a10)) fun z54 W56 hm l56 => mb rfl (bs hm (fun hc59 hm => ?_) fun hc59 hm => ?_)))
      ·refine wak 1 hc59 (mb rfl (Pb hc59 rfl (mb rfl (bs hm (fun hc60 hm => ?_) fun hc60 hm => ?_))))
       ·refine wak 1 hc60 (mb rfl (Pb hc60 rfl (mb rfl (bs hm (fun hc61 hm => ?_) fun hc61 hm => ?_))))
        ·exact wak 1 hc61 (mb rfl (Pb hc61 rfl (Nb rfl ((ag) ⟨(((x0.Text.length : Int) : Int) == (0 : Int)), W56, rfl, l56, rfl, hm⟩))))
        ·exact psk 1 hc61 rfl (Pb hc61 rfl (Nb rfl ((ag) ⟨false, W56, rfl, l56, rfl, hm⟩)))
       ·exact psk 1 hc60 rfl (Pb hc60 rfl (mb rfl (psk 1 rfl rfl (Pb rfl rfl (Nb rfl ((ag) ⟨false, W56, rfl, l56, rfl, hm⟩))))))
      ·exact psk 1 hc59 rfl (Pb hc59 rfl (mb rfl (psk 1 rfl rfl (Pb rfl rfl (mb rfl (psk 1 rfl rfl (Pb rfl rfl (Nb rfl ((ag) ⟨false, W56, rfl, l56, rfl, hm⟩)))))))))
    ·refine sr (Lw.eq rfl (Nb rfl (cn hm (fun hm => ?_) fun hm => ?_)))
     ·obtain ⟨K65, hK65, hm⟩ := jn_e hm
      refine Cw.join 71 84 [2] (fun l w => ∃ y63 W64, CW.w W64 = w ∧ Le [] W9 W64 ∧ l = [vB y63] ∧ K65 y63 = some r) ?_ ?_
      ·rintro _ _ σ ⟨y63, W64, rfl, l64, rfl, hm⟩
       rw [hK65] at hm
       have a66 := a10.n l64
       exact .ret (rt hm a66)
      ·refine rg (fl b11 rfl (ca hm (fun _ => p88 (h99.ul a10)) fun z69 W71 hm l71 => ?_))
       have a72 := a10.n l71
       refine mb rfl (bs hm (fun hc74 hm => ?_) fun hc74 hm => ?_)
       ·refine wak 3 hc74 (fl (b11.up l71) rfl (ca hm (fun _ => p88 (h99.ul a72)) fun z76 W78 hm l78 => Pb hc74 rfl (mb rfl (bs hm (fun hc81 hm => ?_) fun hc81 hm => ?_))))
        ·refine wak 1 hc81 (mb rfl (Pb hc81 rfl (mb rfl (bs hm (fun hc82 hm => ?_) fun hc82 hm => ?_))))
         ·exact wak 1 hc82 (mb rfl (Pb hc82 rfl (Nb rfl ((ag) ⟨(((x0.Text.length : Int) : Int) == (0 : Int)), W78, rfl, (l71.j l78).w, rfl, hm⟩))))
         ·exact psk 1 hc82 rfl (Pb hc82 rfl (Nb rfl ((ag) ⟨false, W78, rfl, (l71.j l78).w, rfl, hm⟩)))
        ·exact psk 1 hc81 rfl (Pb hc81 rfl (mb rfl (psk 1 rfl rfl (Pb rfl rfl (Nb rfl ((ag) ⟨false, W78, rfl, (l71.j l78).w, rfl, hm⟩))))))
       ·exact psk 3 hc74 rfl (Pb hc74 rfl (mb rfl (psk 1 rfl rfl (Pb rfl rfl (mb rfl (psk 1 rfl rfl (Pb rfl rfl (Nb rfl ((ag) ⟨false, W71, rfl, l71, rfl, hm⟩)))))))))
     ·obtain ⟨K85, hK85, hm⟩ := jn_e hm
      refine Cw.join 85 87 [85] (fun l w => ∃ y83 W84, CW.w W84 = w ∧ Le [] W9 W84 ∧ l = [vB y83] ∧ K85 y83 = some r) ?_ ?_
      ·rintro _ _ σ ⟨y83, W84, rfl, l84, rfl, hm⟩
       rw [hK85] at hm
       have a86 := a10.n l84
       refine cn hm (fun hm => ?_) fun hm => ?_
       ·obtain ⟨K91, hK91, hm⟩ := jn_e hm
        refine Cw.join 88 99 [2] (fun l w => ∃ y89 W90, CW.w W90 = w ∧ Le [] W84 W90 ∧ l = [vB y89] ∧ K91 y89 = some r) ?_ ?_
        ·rintro _ _ σ ⟨y89, W90, rfl, l90, rfl, hm⟩
         rw [hK91] at hm
         have a92 := a86.n l90
         exact .ret (rt hm a92)
        ·refine rg (fl (b11.up l84) rfl (ca hm (fun _ => p87) fun z94 W96 hm l96 => mb rfl (bs hm (fun hc99 hm => ?_) fun hc99 hm => ?_)))
         ·refine wak 1 hc99 (mb rfl (Pb hc99 rfl (mb rfl (bs hm (fun hc100 hm => ?_) fun hc100 hm => ?_))))
          ·refine wak 1 hc100 (mb rfl (Pb hc100 rfl (mb rfl (bs hm (fun hc101 hm => ?_) fun hc101 hm => ?_))))
           ·exact wak 1 hc101 (mb rfl (Pb hc101 rfl (Nb rfl ((ag) ⟨(((x0.Text.length : Int) : Int) == (0 : Int)), W96, rfl, l96, rfl, hm⟩))))
           ·exact psk 1 hc101 rfl (Pb hc101 rfl (Nb rfl ((ag) ⟨false, W96, rfl, l96, rfl, hm⟩)))
          ·exact psk 1 hc100 rfl (Pb hc100 rfl (mb rfl (psk 1 rfl rfl (Pb rfl rfl (Nb rfl ((ag) ⟨false, W96, rfl, l96, rfl, hm⟩))))))
         ·exact psk 1 hc99 rfl (Pb hc99 rfl (mb rfl (psk 1 rfl rfl (Pb rfl rfl (mb rfl (psk 1 rfl rfl (Pb rfl rfl (Nb rfl ((ag) ⟨false, W96, rfl, l96, rfl, hm⟩)))))))))
       ·obtain ⟨K104, hK104, hm⟩ := jn_e hm
        refine Cw.join 100 102 [100] (fun l w => ∃ y102 W103, CW.w W103 = w ∧ Le [] W84 W103 ∧ l = [vB y102] ∧ K104 y102 = some r) ?_ ?_
        ·rintro _ _ σ ⟨y102, W103, rfl, l103, rfl, hm⟩
         rw [hK104] at hm
         have a105 := a86.n l103
         refine cn hm (fun hm => ?_) fun hm => ?_
         ·obtain ⟨K110, hK110, hm⟩ := jn_e hm
          refine Cw.join 103 114 [2] (fun l w => ∃ y108 W109, CW.w W109 = w ∧ Le [] W103 W109 ∧ l = [vB y108] ∧ K110 y108 = some r) ?_ ?_
          ·rintro _ _ σ ⟨y108, W109, rfl, l109, rfl, hm⟩
           rw [hK110] at hm
           have a111 := a105.n l109
           exact .ret (rt hm a111)
          ·refine rg (fl ((b11.up l84).up l103) rfl (ca hm (fun _ => p69) fun z113 W115 hm l115 => mb rfl (bs hm (fun hc118 hm => ?_) fun hc118 hm => ?_)))
           ·refine wak 1 hc118 (mb rfl (Pb hc118 rfl (mb rfl (bs hm (fun hc119 hm => ?_) fun hc119 hm => ?_))))
            ·refine wak 1 hc119 (mb rfl (Pb hc119 rfl (mb rfl (bs hm (fun hc120 hm => ?_) fun hc120 hm => ?_))))
             ·exact wak 1 hc120 (mb rfl (Pb hc120 rfl (Nb rfl ((ag) ⟨(((x0.Text.length : Int) : Int) == (0 : Int)), W115, rfl, l115, rfl, hm⟩))))
             ·exact psk 1 hc120 rfl (Pb hc120 rfl (Nb rfl ((ag) ⟨false, W115, rfl, l115, rfl, hm⟩)))
            ·exact psk 1 hc119 rfl (Pb hc119 rfl (mb rfl (psk 1 rfl rfl (Pb rfl rfl (Nb rfl ((ag) ⟨false, W115, rfl, l115, rfl, hm⟩))))))
           ·exact psk 1 hc118 rfl (Pb hc118 rfl (mb rfl (psk 1 rfl rfl (Pb rfl rfl (mb rfl (psk 1 rfl rfl (Pb rfl rfl (Nb rfl ((ag) ⟨false, W115, rfl, l115, rfl, hm⟩)))))))))
         ·exact sk (sr (Nb rfl (.ret (rt hm a105))))
        ·refine sr (Lw.eq rfl (Nb rfl (cn hm (fun hm => ?_) fun hm => ?_)))
         ·exact sk ((ag) ⟨((x0.Kind : Int) == (6 : Int)), W84, rfl, Le.refl _ _, rfl, hm⟩)
         ·exact rg (Lw.eq rfl (Nb rfl ((ag) ⟨((x0.Kind : Int) == (7 : Int)), W84, rfl, Le.refl _ _, rfl, hm⟩)))
      ·refine sr (Lw.eq rfl (Nb rfl (cn hm (fun hm => ?_) fun hm => ?_)))
       ·exact sk ((ag) ⟨((x0.Kind : Int) == (4 : Int)), W9, rfl, Le.refl _ _, rfl, hm⟩)
       ·exact rg (Lw.eq rfl (Nb rfl ((ag) ⟨((x0.Kind : Int) == (5 : Int)), W9, rfl, Le.refl _ _, rfl, hm⟩)))
 ·refine rg (fl b1 rfl (ca hm (fun _ => p87) fun z123 W125 hm l125 => Lw.r rfl (R.not rfl) (mb rfl (bs hm (fun hc128 hm => ?_) fun hc128 hm => ?_))))
  ·exact psk 4 hc128 rfl (Pb hc128 rfl (nl ((ag) ⟨true, W125, rfl, l125, rfl, hm⟩)))
  ·exact wak 4 hc128 (fl (b1.up l125) rfl (ca hm (fun _ => p87) fun z129 W131 hm l131 => Lw.r rfl (R.not rfl) (Pb hc128 rfl (nl ((ag) ⟨(!z129), W131, rfl, (l125.j l131).w, rfl, hm⟩)))))

theorem p36 {x0 v0_6_ r} (h0 : Rd W K [vI x0.Kind, vS x0.Branch, vS x0.Who, vS x0.Path, vS x0.To, vI x0.At, v0_6_] x0) (h99 : Gk 2 0 1 W K) (hm : Vm.impl_OpOk x0 = some r) : Q1 36 [.agg [vI x0.Kind, vS x0.Branch, vS x0.Who, vS x0.Path, vS x0.To, vI x0.At, v0_6_].toArray] W [] fun W' v => v = vB r :=
 (c36 (h0.view _) (h99.view _) hm).ad (fk 0) fun _ _ e => e

theorem c79 {r} (hm : Vm.impl_opWords = some r) : Q0 79 [] W0 fun Wf v => ∃ u0, v = u0 ∧ OwS Wf LL [] [u0] r := by
 unfold Vm.impl_opWords at hm
 refine CallR.of Tryd.func79 rfl rfl rfl rfl (sr (Nv (.slice none 0 0) rfl (sr (Lw.t rfl (T.bsS (α := Str) (xs := [([] : Str), ([115, 101, 116] : Str), ([100, 114, 111, 112] : Str), ([109, 111, 118, 101] : Str), ([102, 111, 114, 107] : Str), ([117, 110, 105, 116, 101] : Str), ([112, 105, 99, 107] : Str), ([98, 97, 99, 107] : Str)]) 2 [] (W := W0) [vS ([] : Str), vS ([115, 101, 116] : Str), vS ([100, 114, 111, 112] : Str), vS ([109, 111, 118, 101] : Str), vS ([102, 111, 114, 107] : Str), vS ([117, 110, 105, 116, 101] : Str), vS ([112, 105, 99, 107] : Str), vS ([98, 97, 99, 107] : Str)] (Each.cons ((rdS _)) (Each.cons ((rdS _)) (Each.cons ((rdS _)) (Each.cons ((rdS _)) (Each.cons ((rdS _)) (Each.cons ((rdS _)) (Each.cons ((rdS _)) (Each.cons ((rdS _)) Each.nil)))))))) rfl) ?_))))
 rintro v1 _ ⟨W1, rfl, l1, o1⟩
 have a2 := l1.o
 refine Nv v1 rfl ?_
 cases hm
 exact Cw.ret (ret1 rfl (Res.mk a2 ⟨v1, rfl, o1.s.sub rfl rfl⟩))

theorem p79 {k0 r} (hm : Vm.impl_opWords = some r) : Q1 79 [] W [] fun W' v => ∃ u0, v = u0 ∧ Ow W' k0 [] [u0] r :=
 (c79 (W0 := W.view [] [])  hm).ad (fk k0) fun _ _ ⟨u0, e, f0⟩ => ⟨u0, e, f0.back (fk_LL _)⟩

theorem c118 {x0 v0_ r} (h0 : Rd W0 [0] [v0_] x0) (hm : Vm.impl_joinLines x0 = some r) : Q0 118 [v0_] W0 fun Wf v => v = vS r := by
 unfold Vm.impl_joinLines at hm
 refine CallR.of Tryd.func118 rfl rfl rfl rfl (sr (Ns rfl (sr (Ns rfl (ssr (mv v0_ rfl (Lw.ln x0 h0 rfl (mi rfl (nl (Cw.block ?_))))))))))
 obtain ⟨K5, hK5, hm⟩ := jn_e hm
 refine Cw.loop 8 16 [3, 5, 8] (fun m l w => ∃ y1 y3 j2 W4, CW.w W4 = w ∧ Le [] W0 W4 ∧ l = [vS y1, j2, vI y3] ∧ Vm.impl_joinLines_l1 x0 K5 m y1 y3 = some r) _ ⟨([] : Str), 0, undef, W0, rfl, Le.refl _ _, rfl, hm⟩ ?_
 rintro (_ | m6) _ _ σ ⟨y1, y3, j2, W4, rfl, l4, rfl, hm⟩
 ·cases hm
 unfold Vm.impl_joinLines_l1 at hm
 have a7 := l4.o
 refine sr (Lw.lt rfl (nl (Cw.seq (cn hm (fun hm => ?_) fun hm => ?_))))
 ·refine sk (Cw.seq (Cw.block (sr ?_)))
  obtain ⟨u9, e10, hm⟩ := ob hm
  refine Lw.r rfl (R.ix (α := Str) (h0.ul a7) e10 rfl rfl rfl) (Lw.r rfl (R.ld rfl rfl ((h0.ul a7).at_ e10).str) (Ns rfl (rg (ms rfl (ms rfl ?_)))))
  obtain ⟨q12, e13, hm⟩ := ob hm
  refine Lw.r rfl (R.sad e13 rfl rfl) ?_
  obtain ⟨q14, e15, hm⟩ := ob hm
  exact Lw.r rfl (R.sad e15 rfl rfl) (Ns rfl (rg (Lw.add rfl (mi rfl (nl ((agm) ⟨q14, w64 (y3 + 1), vS u9, W4, rfl, l4, rfl, hm⟩))))))
 ·refine Cw.exit ?_
  rw [hK5] at hm
  exact sr (ms rfl (Ns rfl (.ret (rt hm a7))))

theorem p118 {x0 v0_ r} (h0 : Rd W K [v0_] x0) (hm : Vm.impl_joinLines x0 = some r) : Q1 118 [v0_] W [] fun W' v => v = vS r :=
 (c118 (h0.view _) hm).ad (fk 0) fun _ _ e => e

end Go.Sx
