/- Walks: each function answers as its model, printed by a program of ours. Conditions: the arguments read as they are given. -/
import Derived.Test.YtmjjhnahdmlmaaaGreatDoorXTs
import Derived.Test.YtmjjhnahdmlmaaaGreatDoorXMd
namespace Go.Sx
open Go Go.Proofs Go.Vm Rp
set_option linter.unusedVariables false
set_option linter.unusedSimpArgs false

theorem c24 {V : CW} {x0 : List Byte} {v0_ : Value} {r : Vm.l30Rd} (h0 : Rd V [0] [v0_] x0) (hm : Vm.spec_l30Open x0 = some r) : CallR Tryz.prog 24 [v0_].toArray V.w (Res V LL fun Wf v => ∃ (ug0 : Nat) (u0_0 : Value), v = ptr (bx ug0) ∧ Bx Wf 31 ug0 [u0_0, vI r.p] ∧ Rd Wf [0] [u0_0] r.b) := by
 unfold Vm.spec_l30Open at hm
 obtain ⟨W0, hW0⟩ : ∃ W, W = V := ⟨V, rfl⟩
 subst hW0
 refine CallR.of Tryz.func24 rfl rfl rfl rfl (Cw.seq (Cw.region (Lw.g (.pointer none) rfl (Lw.nil ?_))))
 obtain ⟨K5, hK5, hm⟩ := jn_e hm
 refine Cw.join 3 7 [0] (fun l w => ∃ (y1 : List Byte) (v2 : Value) (W4 : CW), W4.w = w ∧ Le [] W0 W4 ∧ l = [v2] ∧ Rd W4 [0] [v2] y1 ∧ K5 y1 = some r) ?_ ?_
 ·rintro _ _ σ ⟨y1, v2, W4, rfl, l4, rfl, r3, hm⟩
  rw [hK5] at hm
  have a6 := l4.o
  refine Cw.seq (Cw.region (Lw.m v2 rfl (Lw.r rfl (R.bd (zs := [.slice none 0 0, vI 0]) (cs := [v2, vI 0]) [(0, v2)] rfl rfl rfl (bp_cons r3.oc rfl bp_nil)) (Lw.t rfl (T.box 2 (v := .agg [v2, vI 0].toArray) (cs := [v2, vI 0]) rfl rfl) ?_))))
  rintro _ _ ⟨g7, W7, rfl, rfl, l7, b7⟩
  have a8 := l7.o
  refine Lw.g (ptr (bx g7)) rfl (Lw.nil ?_)
  obtain ⟨W9, ew9, l9, b9⟩ := b7.dyeO 31
  have a10 := l9.s rfl
  cases hm
  rw [← ew9]
  exact Cw.ret (ret1 rfl (Res.mk ((a6.trans a8).trans a10) ⟨g7, v2, rfl, b9, (r3.ul (a8.trans a10))⟩))
 ·refine Cw.seq (Cw.region (Lw.m v0_ rfl (Lw.ln x0 h0 rfl (Lw.gt rfl (Lw.nil (Cw.cond (b := decide ((2000 : Int) < ((x0.length : Int) : Int))) rfl (fun hc12 => ?_) (fun hc12 => ?_)))))))
  ·replace hm := bt hm hc12
   refine Cw.region (Lw.m v0_ rfl ?_)
   obtain ⟨q13, e14, hm⟩ := ob hm
   have r16 := h0.cutV e14
   refine Lw.r rfl (R.sl h0 e14 rfl (.inl ⟨rfl, rfl⟩) (.inr rfl)) (Lw.g ((cutV v0_ (0 : Int).toNat (2000 : Int).toNat (Rp.sz (Byte)))) rfl (Lw.nil (⟨?_, ⟨q13, (cutV v0_ (0 : Int).toNat (2000 : Int).toNat (Rp.sz (Byte))), W0, rfl, Le.refl _ _, rfl, r16, hm⟩⟩)))
   iterate 6 (refine .u ?_)
   exact Agree.refl _
  ·replace hm := bf hm hc12
   refine Cw.skip (⟨?_, ⟨x0, v0_, W0, rfl, Le.refl _ _, rfl, h0, hm⟩⟩)
   iterate 3 (refine .u ?_)
   exact Agree.refl _

theorem p24 {W : CW} {K : List Nat} {x0 : List Byte} {v0_ : Value} {k0 : Nat} {r : Vm.l30Rd} (h0 : Rd W K [v0_] x0) (hm : Vm.spec_l30Open x0 = some r) : CallR Tryz.prog 24 [v0_].toArray W.w (Res W [] fun W' v => ∃ (ug0 : Nat) (u0_0 : Value), v = ptr (bx ug0) ∧ Bx W' k0 ug0 [u0_0, vI r.p] ∧ Rd W' (0 :: K) [u0_0] r.b) :=
 CallR.adJ (J := []) (fun c => bif Nat.beq c 0 then 0 else bif Nat.beq c 31 then k0 else 0) (c24 (V := W.view K []) (h0.view _) hm) fun _ _ ⟨ug0, u0_0, e, f0, f1⟩ => ⟨ug0, u0_0, e, f0.backN rfl, f1.back rfl⟩

theorem c48 {V : CW} {x0 : Vm.l30Rd} {g0_ : Nat} {v0_0_ : Value} {x1 : Int} {r : Int × Int} (hB0 : Bx V 2 g0_ [v0_0_, vI x0.p]) (h0_0 : Rd V [0] [v0_0_] x0.b) (hm : Vm.spec_l30Rd_pick x0 x1 = some r) : CallR Tryz.prog 48 [ptr (bx g0_), vI x1].toArray V.w (Res V LL fun Wf v => v = vI r.1 ∧ Bx Wf 2 g0_ [v0_0_, vI r.2]) := by
 unfold Vm.spec_l30Rd_pick at hm
 obtain ⟨W0, hW0⟩ : ∃ W, W = V := ⟨V, rfl⟩
 subst hW0
 refine CallR.of Tryz.func48 rfl rfl rfl rfl (Cw.seq (Cw.region (Lw.g (vI 0) rfl (Lw.nil (Cw.seq (Cw.region (Lw.m (ptr (bx g0_)) rfl (Lw.m (ptr (bx g0_)) rfl (Lw.r rfl (R.nc rfl) (Lw.fa rfl (Lw.r rfl (R.ld (v := vI x0.p) rfl rfl (hB0.cell rfl)) (Lw.add rfl (Lw.r rfl (R.nc rfl) (Lw.fa rfl (Lw.u (T.st (j := 1) (v := vI (w64 (x0.p + 1))) hB0 rfl rfl rfl rfl rfl) ?_)))))))))))))))
 rintro _ _ ⟨W1, rfl, l1, b1⟩
 have a2 := l1.s rfl
 refine Lw.nil (Cw.seq ?_)
 obtain ⟨K5, hK5, hm⟩ := jn_e hm
 refine Cw.join 15 24 [24] (fun l w => ∃ (y3 : Bool) (W4 : CW), W4.w = w ∧ Le [] W1 W4 ∧ l = [vB y3] ∧ K5 y3 = some r) ?_ ?_
 ·rintro _ _ σ ⟨y3, W4, rfl, l4, rfl, hm⟩
  rw [hK5] at hm
  have a6 := a2.n l4
  have b7 := b1.up l4 rfl
  refine Cw.cond (b := y3) rfl (fun hc8 => ?_) (fun hc8 => ?_)
  ·replace hm := bt hm hc8
   refine Cw.seq (Cw.region (Lw.g (vI 0) rfl (Lw.nil ?_)))
   cases hm
   exact Cw.ret (ret1 rfl (Res.mk a6 ⟨rfl, b7⟩))
  ·replace hm := bf hm hc8
   refine Cw.skip (Cw.seq (Cw.region (Lw.m (ptr (bx g0_)) rfl (Lw.r rfl (R.nc rfl) (Lw.fa rfl (Lw.r rfl (R.ld (v := vI (w64 (x0.p + 1))) rfl rfl (b7.cell rfl)) (Lw.sub rfl (Lw.g (vI (w64 ((w64 (x0.p + 1)) - 1))) rfl (Lw.nil (Cw.seq (Cw.seq (Cw.region ?_))))))))))))
   have s9 := h0_0.ul a6
   refine Lw.m (vI (w64 ((w64 (x0.p + 1)) - 1))) rfl (Lw.m (ptr (bx g0_)) rfl (Lw.r rfl (R.nc rfl) (Lw.fa rfl (Lw.r rfl (R.ld (v := v0_0_) rfl rfl (b7.cell rfl)) (Lw.ln x0.b s9 rfl (Lw.lt rfl (Lw.nil (Cw.cond (b := decide ((w64 ((w64 (x0.p + 1)) - 1) : Int) < ((x0.b.length : Int) : Int))) rfl (fun hc10 => ?_) (fun hc10 => ?_)))))))))
   ·replace hm := bt hm hc10
    refine Cw.seq (Cw.region (Lw.m (ptr (bx g0_)) rfl (Lw.r rfl (R.nc rfl) (Lw.fa rfl (Lw.r rfl (R.ld (v := v0_0_) rfl rfl (b7.cell rfl)) (Lw.m (vI (w64 ((w64 (x0.p + 1)) - 1))) rfl ?_))))))
    obtain ⟨u11, e12, hm⟩ := ob hm
    refine Lw.r rfl (R.ix (α := Byte) s9 e12 rfl rfl rfl) (Lw.r rfl (R.ld rfl rfl (s9.at_ e12).byte) (Lw.r rfl (R.cvI rfl rfl) (Lw.m (vI x1) rfl ?_)))
    obtain ⟨_, e13, hm⟩ := ob hm
    refine Lw.r rfl (R.rem rfl rfl (nz e13)) (Lw.g (vI (Int.tmod (w64 (UInt8.toNat u11 : Int)) x1)) rfl (Lw.nil ?_))
    cases hm
    exact Cw.ret (ret1 rfl (Res.mk a6 ⟨rfl, b7⟩))
   ·replace hm := bf hm hc10
    refine Cw.skip (Cw.seq (Cw.draw [] [(0, 0), (1, 0), (2, 0), (3, 1), (4, 0), (5, 0), (6, 0), (7, 0), (8, 1), (9, 0), (10, 0), (11, 0), (12, 1), (13, 0), (14, 0), (15, 0), (16, 0), (17, 0), (18, 1), (19, 0), (20, 0), (21, 0), (22, 0), (23, 0), (24, 0), (25, 1), (26, 0), (27, 0), (28, 0), (29, 1), (30, 0), (31, 0), (32, 0), (33, 0), (34, 0), (35, 0), (36, 0), (37, 0), (38, 0), (39, 0), (40, 1), (41, 0), (42, 0), (43, 0), (44, 0), (45, 0)] mixed (by kernel_rfl) fun W14 l14 => ?_))
    have a15 := a6.n l14
    have b16 := b7.up l14 rfl
    have s17 := h0_0.ul a15
    refine Mw.p rfl rfl (fun _ => R.mv (v := ptr (bx g0_)) rfl) (Mw.p rfl rfl (fun _ => R.nc rfl) (Mw.p rfl rfl (fun _ => R.fa rfl) (Mw.q rfl rfl (fun _ c => R.ld (v := v0_0_) rfl rfl (b16.clc rfl rfl c)) (Mw.p rfl rfl (fun _ => R.mv (v := vI (w64 ((w64 (x0.p + 1)) - 1))) rfl) (Mw.p rfl rfl (fun _ => R.mv (v := ptr (bx g0_)) rfl) (Mw.p rfl rfl (fun _ => R.nc rfl) (Mw.p rfl rfl (fun _ => R.fa rfl) (Mw.q rfl rfl (fun _ c => R.ld (v := v0_0_) rfl rfl (b16.clc rfl rfl c)) (Mw.p rfl rfl (fun _ => lenR (xs := x0.b) s17 rfl) ?_)))))))))
    obtain ⟨_, e18, hm⟩ := ob hm
    refine Mw.p rfl rfl (fun _ => R.rem rfl rfl (nz e18)) ?_
    obtain ⟨u19, e20, hm⟩ := ob hm
    refine Mw.p rfl rfl (fun _ => R.ix (α := Byte) s17 e20 rfl rfl rfl) (Mw.q rfl rfl (fun _ c => R.ld rfl rfl (cl_cell (s17.at_ e20).1 rfl (s17.at_ e20).byte c)) (Mw.p rfl rfl (fun _ => R.cvI rfl rfl) (Mw.p rfl rfl (fun _ => R.mul rfl rfl) (Mw.p rfl rfl (fun _ => R.mv (v := ptr (bx g0_)) rfl) (Mw.p rfl rfl (fun _ => R.nc rfl) (Mw.p rfl rfl (fun _ => R.fa rfl) (Mw.q rfl rfl (fun _ c => R.ld (v := v0_0_) rfl rfl (b16.clc rfl rfl c)) (Mw.p rfl rfl (fun _ => R.mv (v := vI (w64 ((w64 (x0.p + 1)) - 1))) rfl) (Mw.p rfl rfl (fun _ => R.mul rfl rfl) (Mw.p rfl rfl (fun _ => R.add rfl rfl) (Mw.p rfl rfl (fun _ => R.mv (v := ptr (bx g0_)) rfl) (Mw.p rfl rfl (fun _ => R.nc rfl) (Mw.p rfl rfl (fun _ => R.fa rfl) (Mw.q rfl rfl (fun _ c => R.ld (v := v0_0_) rfl rfl (b16.clc rfl rfl c)) (Mw.p rfl rfl (fun _ => lenR (xs := x0.b) s17 rfl) ?_)))))))))))))))
    obtain ⟨_, e21, hm⟩ := ob hm
    refine Mw.p rfl rfl (fun _ => R.rem rfl rfl (nz e21)) ?_
    obtain ⟨u22, e23, hm⟩ := ob hm
    refine Mw.p rfl rfl (fun _ => R.ix (α := Byte) s17 e23 rfl rfl rfl) (Mw.q rfl rfl (fun _ c => R.ld rfl rfl (cl_cell (s17.at_ e23).1 rfl (s17.at_ e23).byte c)) (Mw.p rfl rfl (fun _ => R.cvI rfl rfl) (Mw.p rfl rfl (fun _ => R.mul rfl rfl) (Mw.p rfl rfl (fun _ => R.add rfl rfl) (Mw.p rfl rfl (fun _ => R.mv (v := vI (w64 ((w64 (x0.p + 1)) - 1))) rfl) (Mw.p rfl rfl (fun _ => R.mul rfl rfl) (Mw.p rfl rfl (fun _ => R.add rfl rfl) (Mw.p rfl rfl (fun _ => R.mv (v := vI (w64 ((w64 (x0.p + 1)) - 1))) rfl) (Mw.p rfl rfl (fun _ => R.mv (v := ptr (bx g0_)) rfl) (Mw.p rfl rfl (fun _ => R.nc rfl) (Mw.p rfl rfl (fun _ => R.fa rfl) (Mw.q rfl rfl (fun _ c => R.ld (v := v0_0_) rfl rfl (b16.clc rfl rfl c)) (Mw.p rfl rfl (fun _ => lenR (xs := x0.b) s17 rfl) ?_)))))))))))))
    obtain ⟨_, e24, hm⟩ := ob hm
    refine Mw.p rfl rfl (fun _ => R.quo rfl rfl (nz e24)) (Mw.p rfl rfl (fun _ => R.mul rfl rfl) (Mw.p rfl rfl (fun _ => R.add rfl rfl) (Mw.p rfl rfl (fun _ => R.as (v := vI (w64 ((w64 ((w64 ((w64 ((w64 (UInt8.toNat u19 : Int)) * 131)) + (w64 ((w64 (UInt8.toNat u22 : Int)) * 1117)))) + (w64 ((w64 ((w64 (x0.p + 1)) - 1)) * 29)))) + (w64 ((w64 (Int.tdiv (w64 ((w64 (x0.p + 1)) - 1)) (x0.b.length : Int))) * 53))))) rfl) (Mw.nil (Cw.seq (Cw.region ?_))))))
    refine Lw.m (vI (w64 ((w64 ((w64 ((w64 ((w64 (UInt8.toNat u19 : Int)) * 131)) + (w64 ((w64 (UInt8.toNat u22 : Int)) * 1117)))) + (w64 ((w64 ((w64 (x0.p + 1)) - 1)) * 29)))) + (w64 ((w64 (Int.tdiv (w64 ((w64 (x0.p + 1)) - 1)) (x0.b.length : Int))) * 53))))) rfl (Lw.m (vI (w64 ((w64 ((w64 ((w64 ((w64 (UInt8.toNat u19 : Int)) * 131)) + (w64 ((w64 (UInt8.toNat u22 : Int)) * 1117)))) + (w64 ((w64 ((w64 (x0.p + 1)) - 1)) * 29)))) + (w64 ((w64 (Int.tdiv (w64 ((w64 (x0.p + 1)) - 1)) (x0.b.length : Int))) * 53))))) rfl (Lw.r rfl (R.quo rfl rfl (by decide)) (Lw.r rfl (R.xor rfl rfl) (Lw.g (vI (xor64 (w64 ((w64 ((w64 ((w64 ((w64 (UInt8.toNat u19 : Int)) * 131)) + (w64 ((w64 (UInt8.toNat u22 : Int)) * 1117)))) + (w64 ((w64 ((w64 (x0.p + 1)) - 1)) * 29)))) + (w64 ((w64 (Int.tdiv (w64 ((w64 (x0.p + 1)) - 1)) (x0.b.length : Int))) * 53)))) (w64 (Int.tdiv (w64 ((w64 ((w64 ((w64 ((w64 (UInt8.toNat u19 : Int)) * 131)) + (w64 ((w64 (UInt8.toNat u22 : Int)) * 1117)))) + (w64 ((w64 ((w64 (x0.p + 1)) - 1)) * 29)))) + (w64 ((w64 (Int.tdiv (w64 ((w64 (x0.p + 1)) - 1)) (x0.b.length : Int))) * 53)))) 64)))) rfl (Lw.nil (Cw.seq (Cw.region ?_)))))))
    refine Lw.m (vI (xor64 (w64 ((w64 ((w64 ((w64 ((w64 (UInt8.toNat u19 : Int)) * 131)) + (w64 ((w64 (UInt8.toNat u22 : Int)) * 1117)))) + (w64 ((w64 ((w64 (x0.p + 1)) - 1)) * 29)))) + (w64 ((w64 (Int.tdiv (w64 ((w64 (x0.p + 1)) - 1)) (x0.b.length : Int))) * 53)))) (w64 (Int.tdiv (w64 ((w64 ((w64 ((w64 ((w64 (UInt8.toNat u19 : Int)) * 131)) + (w64 ((w64 (UInt8.toNat u22 : Int)) * 1117)))) + (w64 ((w64 ((w64 (x0.p + 1)) - 1)) * 29)))) + (w64 ((w64 (Int.tdiv (w64 ((w64 (x0.p + 1)) - 1)) (x0.b.length : Int))) * 53)))) 64)))) rfl (Lw.m (vI x1) rfl ?_)
    obtain ⟨_, e25, hm⟩ := ob hm
    refine Lw.r rfl (R.rem rfl rfl (nz e25)) (Lw.g (vI (Int.tmod (xor64 (w64 ((w64 ((w64 ((w64 ((w64 (UInt8.toNat u19 : Int)) * 131)) + (w64 ((w64 (UInt8.toNat u22 : Int)) * 1117)))) + (w64 ((w64 ((w64 (x0.p + 1)) - 1)) * 29)))) + (w64 ((w64 (Int.tdiv (w64 ((w64 (x0.p + 1)) - 1)) (x0.b.length : Int))) * 53)))) (w64 (Int.tdiv (w64 ((w64 ((w64 ((w64 ((w64 (UInt8.toNat u19 : Int)) * 131)) + (w64 ((w64 (UInt8.toNat u22 : Int)) * 1117)))) + (w64 ((w64 ((w64 (x0.p + 1)) - 1)) * 29)))) + (w64 ((w64 (Int.tdiv (w64 ((w64 (x0.p + 1)) - 1)) (x0.b.length : Int))) * 53)))) 64))) x1)) rfl (Lw.nil ?_))
    cases hm
    exact Cw.ret (ret1 rfl (Res.mk a15 ⟨rfl, b16⟩))
 ·refine Cw.region (Lw.m (vI x1) rfl (Lw.lt rfl (Lw.m (vB (decide ((x1 : Int) < (1 : Int)))) rfl (bsplit (decide ((x1 : Int) < (1 : Int))) (fun hc26 => ?_) (fun hc26 => ?_)))))
  ·replace hm := bt hm hc26
   refine Lw.ps hc26 rfl (Lw.ps hc26 rfl (Lw.ps hc26 rfl (Lw.ps hc26 rfl (Lw.ps hc26 rfl (Lw.ps hc26 rfl (Lw.p hc26 (vB true) rfl (Lw.nil (⟨?_, ⟨true, W1, rfl, Le.refl _ _, rfl, hm⟩⟩))))))))
   iterate 10 (refine .u ?_)
   exact Agree.refl _
  ·replace hm := bf hm hc26
   refine Lw.wa hc26 rfl (Lw.m (ptr (bx g0_)) rfl (Lw.wa hc26 rfl (Lw.r rfl (R.nc rfl) (Lw.wa hc26 rfl (Lw.fa rfl (Lw.wa hc26 rfl (Lw.r rfl (R.ld (v := v0_0_) rfl rfl (b1.cell rfl)) (Lw.wa hc26 rfl (Lw.ln x0.b (h0_0.ul a2) rfl (Lw.wa hc26 rfl (Lw.eq rfl (Lw.p hc26 (vB (((x0.b.length : Int) : Int) == (0 : Int))) rfl (Lw.nil (⟨?_, ⟨(((x0.b.length : Int) : Int) == (0 : Int)), W1, rfl, Le.refl _ _, rfl, hm⟩⟩))))))))))))))
   iterate 10 (refine .u ?_)
   exact Agree.refl _

theorem p48 {W : CW} {K : List Nat} {x0 : Vm.l30Rd} {g0_ : Nat} {v0_0_ : Value} {x1 : Int} {c0 : Nat} {r : Int × Int} (hB0 : Bx W c0 g0_ [v0_0_, vI x0.p]) (h0_0 : Rd W K [v0_0_] x0.b) (hJ : okJ K [c0] = true) (hm : Vm.spec_l30Rd_pick x0 x1 = some r) : CallR Tryz.prog 48 [ptr (bx g0_), vI x1].toArray W.w (Res W [c0] fun W' v => v = vI r.1 ∧ Bx W' c0 g0_ [v0_0_, vI r.2]) :=
 CallR.adJ (J := [c0]) (fun c => bif Nat.beq c 0 then 0 else bif Nat.beq c 2 then c0 else 0) (c48 (V := W.view K [c0]) (hB0.viewJ 0 hJ) (h0_0.view _) hm) fun _ _ ⟨e, f0⟩ => ⟨e, Bx.backJ 0 f0 rfl⟩

theorem c49 {V : CW} {x0 : Vm.l30Rd} {g0_ : Nat} {v0_0_ : Value} {x1 : List Int} {v1_ : Value} {r : Int × Int} (hB0 : Bx V 2 g0_ [v0_0_, vI x0.p]) (h0_0 : Rd V [0] [v0_0_] x0.b) (h1 : Rd V [0] [v1_] x1) (hm : Vm.spec_l30Rd_one x0 x1 = some r) : CallR Tryz.prog 49 [ptr (bx g0_), v1_].toArray V.w (Res V LL fun Wf v => v = vI r.1 ∧ Bx Wf 2 g0_ [v0_0_, vI r.2]) := by
 unfold Vm.spec_l30Rd_one at hm
 obtain ⟨W0, hW0⟩ : ∃ W, W = V := ⟨V, rfl⟩
 subst hW0
 refine CallR.of Tryz.func49 rfl rfl rfl rfl (Cw.seq (Cw.region (Lw.g (vI 0) rfl (Lw.nil (Cw.seq (Cw.region (Lw.m v1_ rfl (Lw.m (ptr (bx g0_)) rfl (Lw.m v1_ rfl (Lw.ln x1 h1 rfl ?_))))))))))
 obtain ⟨z1, e2, hm⟩ := ob hm
 refine Lw.t rfl (T.call rfl (p48 (K := [0])  (c0 := 2) (x0 := x0) hB0 h0_0 rfl e2)) ?_
 rintro _ _ ⟨W3, rfl, l3, ⟨rfl, f3_0⟩⟩
 have a4 := l3.s rfl
 obtain ⟨u5, e6, hm⟩ := ob hm
 refine Lw.r rfl (R.ix (α := Int) (h1.ul a4) e6 rfl rfl rfl) (Lw.r rfl (R.ld rfl rfl ((h1.ul a4).at_ e6).int) (Lw.g (vI u5) rfl (Lw.nil ?_)))
 cases hm
 exact Cw.ret (ret1 rfl (Res.mk a4 ⟨rfl, f3_0⟩))

theorem p49 {W : CW} {K : List Nat} {x0 : Vm.l30Rd} {g0_ : Nat} {v0_0_ : Value} {x1 : List Int} {v1_ : Value} {c0 : Nat} {r : Int × Int} (hB0 : Bx W c0 g0_ [v0_0_, vI x0.p]) (h0_0 : Rd W K [v0_0_] x0.b) (h1 : Rd W K [v1_] x1) (hJ : okJ K [c0] = true) (hm : Vm.spec_l30Rd_one x0 x1 = some r) : CallR Tryz.prog 49 [ptr (bx g0_), v1_].toArray W.w (Res W [c0] fun W' v => v = vI r.1 ∧ Bx W' c0 g0_ [v0_0_, vI r.2]) :=
 CallR.adJ (J := [c0]) (fun c => bif Nat.beq c 0 then 0 else bif Nat.beq c 2 then c0 else 0) (c49 (V := W.view K [c0]) (hB0.viewJ 0 hJ) (h0_0.view _) (h1.view _) hm) fun _ _ ⟨e, f0⟩ => ⟨e, Bx.backJ 0 f0 rfl⟩

theorem c87 {V : CW} {x0 : Vm.l30Rd} {g0_ : Nat} {v0_0_ : Value} {x1 : List Str} {v1_ : Value} {r : Str × Int} (hB0 : Bx V 2 g0_ [v0_0_, vI x0.p]) (h0_0 : Rd V [0] [v0_0_] x0.b) (h1 : Rd V [0] [v1_] x1) (hm : Vm.spec_l30Rd_of x0 x1 = some r) : CallR Tryz.prog 87 [ptr (bx g0_), v1_].toArray V.w (Res V LL fun Wf v => v = vS r.1 ∧ Bx Wf 2 g0_ [v0_0_, vI r.2]) := by
 unfold Vm.spec_l30Rd_of at hm
 obtain ⟨W0, hW0⟩ : ∃ W, W = V := ⟨V, rfl⟩
 subst hW0
 refine CallR.of Tryz.func87 rfl rfl rfl rfl (Cw.seq (Cw.region (Lw.g (vS ([] : Str)) rfl (Lw.nil (Cw.seq (Cw.region (Lw.m v1_ rfl (Lw.m (ptr (bx g0_)) rfl (Lw.m v1_ rfl (Lw.ln x1 h1 rfl ?_))))))))))
 obtain ⟨z1, e2, hm⟩ := ob hm
 refine Lw.t rfl (T.call rfl (p48 (K := [0])  (c0 := 2) (x0 := x0) hB0 h0_0 rfl e2)) ?_
 rintro _ _ ⟨W3, rfl, l3, ⟨rfl, f3_0⟩⟩
 have a4 := l3.s rfl
 obtain ⟨u5, e6, hm⟩ := ob hm
 refine Lw.r rfl (R.ix (α := Str) (h1.ul a4) e6 rfl rfl rfl) (Lw.r rfl (R.ld rfl rfl ((h1.ul a4).at_ e6).str) (Lw.g (vS u5) rfl (Lw.nil ?_)))
 cases hm
 exact Cw.ret (ret1 rfl (Res.mk a4 ⟨rfl, f3_0⟩))

theorem p87 {W : CW} {K : List Nat} {x0 : Vm.l30Rd} {g0_ : Nat} {v0_0_ : Value} {x1 : List Str} {v1_ : Value} {c0 : Nat} {r : Str × Int} (hB0 : Bx W c0 g0_ [v0_0_, vI x0.p]) (h0_0 : Rd W K [v0_0_] x0.b) (h1 : Rd W K [v1_] x1) (hJ : okJ K [c0] = true) (hm : Vm.spec_l30Rd_of x0 x1 = some r) : CallR Tryz.prog 87 [ptr (bx g0_), v1_].toArray W.w (Res W [c0] fun W' v => v = vS r.1 ∧ Bx W' c0 g0_ [v0_0_, vI r.2]) :=
 CallR.adJ (J := [c0]) (fun c => bif Nat.beq c 0 then 0 else bif Nat.beq c 2 then c0 else 0) (c87 (V := W.view K [c0]) (hB0.viewJ 0 hJ) (h0_0.view _) (h1.view _) hm) fun _ _ ⟨e, f0⟩ => ⟨e, Bx.backJ 0 f0 rfl⟩

theorem c86 {V : CW} {x0 : Vm.l30Rd} {g0_ : Nat} {v0_0_ : Value} {r : Str × Int} (hB0 : Bx V 2 g0_ [v0_0_, vI x0.p]) (h0_0 : Rd V [0] [v0_0_] x0.b) (hm : Vm.spec_l30Branch x0 = some r) : CallR Tryz.prog 86 [ptr (bx g0_)].toArray V.w (Res V LL fun Wf v => v = vS r.1 ∧ Bx Wf 2 g0_ [v0_0_, vI r.2]) := by
 unfold Vm.spec_l30Branch at hm
 obtain ⟨W0, hW0⟩ : ∃ W, W = V := ⟨V, rfl⟩
 subst hW0
 refine CallR.of Tryz.func86 rfl rfl rfl rfl (Cw.seq (Cw.region (Lw.g (vS ([] : Str)) rfl (Lw.nil (Cw.seq (Cw.region (Lw.m (ptr (bx g0_)) rfl (Lw.t rfl (T.bsS (α := Str) (xs := [([109, 97, 105, 110] : Str), ([109, 97, 105, 110] : Str), ([115, 105, 100, 101] : Str), ([100, 101, 118] : Str)]) 3 [] (W := W0) [vS ([109, 97, 105, 110] : Str), vS ([109, 97, 105, 110] : Str), vS ([115, 105, 100, 101] : Str), vS ([100, 101, 118] : Str)] (Each.cons ((rdS _)) (Each.cons ((rdS _)) (Each.cons ((rdS _)) (Each.cons ((rdS _)) Each.nil)))) rfl) ?_))))))))
 rintro v1 _ ⟨W1, rfl, l1, o1⟩
 have a2 := l1.o
 have b3 := hB0.up l1 rfl
 obtain ⟨z5, e6, hm⟩ := ob hm
 refine Lw.t rfl (T.call rfl (p87 (K := [0, 3])  (c0 := 2) (x0 := x0) b3 ((h0_0.ul a2).sub (M := [0, 3]) rfl) (o1.rd.sub (M := [0, 3]) rfl) rfl e6)) ?_
 rintro _ _ ⟨W7, rfl, l7, ⟨rfl, f7_0⟩⟩
 have a8 := a2.t l7 rfl
 refine Lw.g (vS z5.1) rfl (Lw.nil ?_)
 cases hm
 exact Cw.ret (ret1 rfl (Res.mk a8 ⟨rfl, f7_0⟩))

theorem p86 {W : CW} {K : List Nat} {x0 : Vm.l30Rd} {g0_ : Nat} {v0_0_ : Value} {c0 : Nat} {r : Str × Int} (hB0 : Bx W c0 g0_ [v0_0_, vI x0.p]) (h0_0 : Rd W K [v0_0_] x0.b) (hJ : okJ K [c0] = true) (hm : Vm.spec_l30Branch x0 = some r) : CallR Tryz.prog 86 [ptr (bx g0_)].toArray W.w (Res W [c0] fun W' v => v = vS r.1 ∧ Bx W' c0 g0_ [v0_0_, vI r.2]) :=
 CallR.adJ (J := [c0]) (fun c => bif Nat.beq c 0 then 0 else bif Nat.beq c 2 then c0 else 0) (c86 (V := W.view K [c0]) (hB0.viewJ 0 hJ) (h0_0.view _) hm) fun _ _ ⟨e, f0⟩ => ⟨e, Bx.backJ 0 f0 rfl⟩

theorem c88 {V : CW} {x0 : Vm.l30Rd} {g0_ : Nat} {v0_0_ : Value} {r : Str × Int} (hB0 : Bx V 2 g0_ [v0_0_, vI x0.p]) (h0_0 : Rd V [0] [v0_0_] x0.b) (hm : Vm.spec_l30Path x0 = some r) : CallR Tryz.prog 88 [ptr (bx g0_)].toArray V.w (Res V LL fun Wf v => v = vS r.1 ∧ Bx Wf 2 g0_ [v0_0_, vI r.2]) := by
 unfold Vm.spec_l30Path at hm
 obtain ⟨W0, hW0⟩ : ∃ W, W = V := ⟨V, rfl⟩
 subst hW0
 refine CallR.of Tryz.func88 rfl rfl rfl rfl (Cw.seq (Cw.region (Lw.g (vS ([] : Str)) rfl (Lw.nil (Cw.seq (Cw.region (Lw.m (ptr (bx g0_)) rfl (Lw.t rfl (T.bsS (α := Str) (xs := [([97] : Str), ([98] : Str), ([100, 47, 101] : Str), ([100, 47, 102] : Str), ([103, 47, 104, 47, 105] : Str), ([103, 47, 107] : Str), ([122] : Str)]) 3 [] (W := W0) [vS ([97] : Str), vS ([98] : Str), vS ([100, 47, 101] : Str), vS ([100, 47, 102] : Str), vS ([103, 47, 104, 47, 105] : Str), vS ([103, 47, 107] : Str), vS ([122] : Str)] (Each.cons ((rdS _)) (Each.cons ((rdS _)) (Each.cons ((rdS _)) (Each.cons ((rdS _)) (Each.cons ((rdS _)) (Each.cons ((rdS _)) (Each.cons ((rdS _)) Each.nil))))))) rfl) ?_))))))))
 rintro v1 _ ⟨W1, rfl, l1, o1⟩
 have a2 := l1.o
 have b3 := hB0.up l1 rfl
 obtain ⟨z5, e6, hm⟩ := ob hm
 refine Lw.t rfl (T.call rfl (p87 (K := [0, 3])  (c0 := 2) (x0 := x0) b3 ((h0_0.ul a2).sub (M := [0, 3]) rfl) (o1.rd.sub (M := [0, 3]) rfl) rfl e6)) ?_
 rintro _ _ ⟨W7, rfl, l7, ⟨rfl, f7_0⟩⟩
 have a8 := a2.t l7 rfl
 refine Lw.g (vS z5.1) rfl (Lw.nil ?_)
 cases hm
 exact Cw.ret (ret1 rfl (Res.mk a8 ⟨rfl, f7_0⟩))

theorem p88 {W : CW} {K : List Nat} {x0 : Vm.l30Rd} {g0_ : Nat} {v0_0_ : Value} {c0 : Nat} {r : Str × Int} (hB0 : Bx W c0 g0_ [v0_0_, vI x0.p]) (h0_0 : Rd W K [v0_0_] x0.b) (hJ : okJ K [c0] = true) (hm : Vm.spec_l30Path x0 = some r) : CallR Tryz.prog 88 [ptr (bx g0_)].toArray W.w (Res W [c0] fun W' v => v = vS r.1 ∧ Bx W' c0 g0_ [v0_0_, vI r.2]) :=
 CallR.adJ (J := [c0]) (fun c => bif Nat.beq c 0 then 0 else bif Nat.beq c 2 then c0 else 0) (c88 (V := W.view K [c0]) (hB0.viewJ 0 hJ) (h0_0.view _) hm) fun _ _ ⟨e, f0⟩ => ⟨e, Bx.backJ 0 f0 rfl⟩

theorem c101 {V : CW} {x0 : Vm.l30Rd} {g0_ : Nat} {v0_0_ : Value} {r : Str × Int} (hB0 : Bx V 2 g0_ [v0_0_, vI x0.p]) (h0_0 : Rd V [0] [v0_0_] x0.b) (hm : Vm.spec_l30Line x0 = some r) : CallR Tryz.prog 101 [ptr (bx g0_)].toArray V.w (Res V LL fun Wf v => v = vS r.1 ∧ Bx Wf 2 g0_ [v0_0_, vI r.2]) := by
 unfold Vm.spec_l30Line at hm
 obtain ⟨W0, hW0⟩ : ∃ W, W = V := ⟨V, rfl⟩
 subst hW0
 refine CallR.of Tryz.func101 rfl rfl rfl rfl (Cw.seq (Cw.region (Lw.g (vS ([] : Str)) rfl (Lw.nil (Cw.seq (Cw.region (Lw.m (ptr (bx g0_)) rfl (Lw.t rfl (T.bsS (α := Str) (xs := [([97] : Str), ([98] : Str), ([99] : Str), ([100] : Str), ([] : Str), ([120, 32, 121] : Str), ([115, 101, 101, 32, 97] : Str), ([115, 101, 101, 32, 100, 47, 101] : Str), ([101, 110, 100] : Str)]) 3 [] (W := W0) [vS ([97] : Str), vS ([98] : Str), vS ([99] : Str), vS ([100] : Str), vS ([] : Str), vS ([120, 32, 121] : Str), vS ([115, 101, 101, 32, 97] : Str), vS ([115, 101, 101, 32, 100, 47, 101] : Str), vS ([101, 110, 100] : Str)] (Each.cons ((rdS _)) (Each.cons ((rdS _)) (Each.cons ((rdS _)) (Each.cons ((rdS _)) (Each.cons ((rdS _)) (Each.cons ((rdS _)) (Each.cons ((rdS _)) (Each.cons ((rdS _)) (Each.cons ((rdS _)) Each.nil))))))))) rfl) ?_))))))))
 rintro v1 _ ⟨W1, rfl, l1, o1⟩
 have a2 := l1.o
 have b3 := hB0.up l1 rfl
 obtain ⟨z5, e6, hm⟩ := ob hm
 refine Lw.t rfl (T.call rfl (p87 (K := [0, 3])  (c0 := 2) (x0 := x0) b3 ((h0_0.ul a2).sub (M := [0, 3]) rfl) (o1.rd.sub (M := [0, 3]) rfl) rfl e6)) ?_
 rintro _ _ ⟨W7, rfl, l7, ⟨rfl, f7_0⟩⟩
 have a8 := a2.t l7 rfl
 refine Lw.g (vS z5.1) rfl (Lw.nil ?_)
 cases hm
 exact Cw.ret (ret1 rfl (Res.mk a8 ⟨rfl, f7_0⟩))

theorem p101 {W : CW} {K : List Nat} {x0 : Vm.l30Rd} {g0_ : Nat} {v0_0_ : Value} {c0 : Nat} {r : Str × Int} (hB0 : Bx W c0 g0_ [v0_0_, vI x0.p]) (h0_0 : Rd W K [v0_0_] x0.b) (hJ : okJ K [c0] = true) (hm : Vm.spec_l30Line x0 = some r) : CallR Tryz.prog 101 [ptr (bx g0_)].toArray W.w (Res W [c0] fun W' v => v = vS r.1 ∧ Bx W' c0 g0_ [v0_0_, vI r.2]) :=
 CallR.adJ (J := [c0]) (fun c => bif Nat.beq c 0 then 0 else bif Nat.beq c 2 then c0 else 0) (c101 (V := W.view K [c0]) (hB0.viewJ 0 hJ) (h0_0.view _) hm) fun _ _ ⟨e, f0⟩ => ⟨e, Bx.backJ 0 f0 rfl⟩

theorem c89 {V : CW} {x0 : Vm.l30Rd} {g0_ : Nat} {v0_0_ : Value} {r : (List Str) × Int} (hB0 : Bx V 2 g0_ [v0_0_, vI x0.p]) (h0_0 : Rd V [0] [v0_0_] x0.b) (hm : Vm.spec_l30Text x0 = some r) : CallR Tryz.prog 89 [ptr (bx g0_)].toArray V.w (Res V LL fun Wf v => ∃ (u0 : Value), v = u0 ∧ OwS Wf [31] [] [u0] r.1 ∧ Bx Wf 2 g0_ [v0_0_, vI r.2]) := by
 unfold Vm.spec_l30Text at hm
 obtain ⟨W0, hW0⟩ : ∃ W, W = V := ⟨V, rfl⟩
 subst hW0
 refine CallR.of Tryz.func89 rfl rfl rfl rfl (Cw.seq (Cw.region (Lw.g (.slice none 0 0) rfl (Lw.nil (Cw.seq (Cw.region (Lw.t rfl (T.lit0 (α := Str) 3 []) ?_)))))))
 rintro v1 _ ⟨W1, rfl, l1, o1⟩
 have a2 := l1.o
 have b3 := hB0.up l1 rfl
 refine Lw.g v1 rfl (Lw.nil (Cw.seq (Cw.seq (Cw.region (Lw.m (ptr (bx g0_)) rfl (Lw.t rfl (T.bsS (α := Int) (xs := [0, 1, 3, 5, 8]) 4 [] (W := W1) [vI 0, vI 1, vI 3, vI 5, vI 8] (Each.cons ((rdI _)) (Each.cons ((rdI _)) (Each.cons ((rdI _)) (Each.cons ((rdI _)) (Each.cons ((rdI _)) Each.nil))))) rfl) ?_))))))
 rintro v4 _ ⟨W4, rfl, l4, o4⟩
 have a5 := a2.n l4
 obtain ⟨z9, e10, hm⟩ := ob hm
 refine Lw.t rfl (T.call rfl (p49 (K := [0, 4])  (c0 := 2) (x0 := x0) (b3.up l4 rfl) ((h0_0.ul a5).sub (M := [0, 4]) rfl) (o4.rd.sub (M := [0, 4]) rfl) rfl e10)) ?_
 rintro _ _ ⟨W11, rfl, l11, ⟨rfl, f11_0⟩⟩
 have a12 := a5.t l11 rfl
 refine Lw.g (vI z9.1) rfl (Lw.nil (Cw.block ?_))
 obtain ⟨K22, hK22, hm⟩ := jn_e hm
 refine Cw.loop 9 17 [3, 4] (fun m l w => ∃ (y15 : List Str) (y18 : Int) (y19 : Int) (v16 : Value) (W21 : CW), W21.w = w ∧ Le [2, 3] W11 W21 ∧ l = [v16, vI y18] ∧ Ow W21 3 [] [v16] y15 ∧ Bx W21 2 g0_ [v0_0_, vI y19] ∧ Vm.spec_l30Text_l1 x0 K22 m y15 y18 y19 = some r) ((z9.1 - 0).toNat + 1) ⟨([] : List Str), z9.1, z9.2, v1, W11, rfl, Le.refl _ _, rfl, ((o1.up l4 rfl).up l11 rfl), f11_0, hm⟩ ?_
 rintro m23 _ _ σ ⟨y15, y18, y19, v16, W21, rfl, l21, rfl, o17, b20, hm⟩
 obtain _ | m23 := m23
 ·cases hm
 unfold Vm.spec_l30Text_l1 at hm
 have a24 := a12.t l21 rfl
 refine Cw.seq (Cw.seq (Cw.region (Lw.m (vI y18) rfl (Lw.gt rfl (Lw.nil (Cw.cond (b := decide ((0 : Int) < (y18 : Int))) rfl (fun hc26 => ?_) (fun hc26 => ?_)))))))
 ·replace hm := bt hm hc26
  refine Cw.skip (Cw.seq (Cw.block (Cw.region (Lw.m v16 rfl (Lw.m (ptr (bx g0_)) rfl ?_)))))
  obtain ⟨z28, e29, hm⟩ := ob hm
  refine Lw.t rfl (T.call rfl (p101 (K := [0])  (c0 := 2) (x0 := (Vm.l30Rd.mk x0.b y19)) b20 (h0_0.ul a24) rfl e29)) ?_
  rintro _ _ ⟨W30, rfl, l30, ⟨rfl, f30_0⟩⟩
  refine Lw.t rfl (T.bs 5 [vS z28.1] (cs := [vS z28.1]) rfl rfl (bsv rfl)) ?_
  rintro _ _ ⟨g34, W34, rfl, rfl, l34, b34⟩
  obtain ⟨q39, e40, hm⟩ := ob hm
  refine Lw.t rfl (T.app1S (α := Str) (K' := []) ((o17.up l30 rfl).up l34 rfl) b34 (rdS _) rfl rfl e40) ?_
  rintro v41 _ ⟨W41, rfl, l41, o41⟩
  refine Lw.g v41 rfl (Lw.nil (Cw.region (Lw.m (vI y18) rfl (Lw.sub rfl (Lw.g (vI (w64 (y18 - 1))) rfl (Lw.nil (⟨?_, m23, Nat.lt_succ_self m23, ⟨q39, w64 (y18 - 1), z28.2, v41, W41, rfl, (l21.trans ((l30.sub rfl).trans ((l34.sub rfl).trans (l41.sub rfl)))), rfl, o41, ((f30_0.up l34 rfl).up l41 rfl), hm⟩⟩)))))))
  iterate 13 (refine .u ?_)
  exact Agree.base
 ·replace hm := bf hm hc26
  refine Cw.exit ?_
  rw [hK22] at hm
  refine Cw.seq (Cw.region (Lw.m v16 rfl (Lw.g v16 rfl (Lw.nil ?_))))
  obtain ⟨W46, ew46, l46, o46⟩ := o17.dyeO 31
  have a47 := a24.t l46 rfl
  cases hm
  rw [← ew46]
  exact Cw.ret (ret1 rfl (Res.mk a47 ⟨v16, rfl, o46.s, (b20.up l46 rfl)⟩))

theorem p89 {W : CW} {K : List Nat} {x0 : Vm.l30Rd} {g0_ : Nat} {v0_0_ : Value} {k0 : Nat} {c0 : Nat} {r : (List Str) × Int} (hB0 : Bx W c0 g0_ [v0_0_, vI x0.p]) (h0_0 : Rd W K [v0_0_] x0.b) (hJ : okJ K [c0] = true) (hm : Vm.spec_l30Text x0 = some r) : CallR Tryz.prog 89 [ptr (bx g0_)].toArray W.w (Res W [c0] fun W' v => ∃ (u0 : Value), v = u0 ∧ Ow W' k0 [] [u0] r.1 ∧ Bx W' c0 g0_ [v0_0_, vI r.2]) :=
 CallR.adJ (J := [c0]) (fun c => bif Nat.beq c 0 then 0 else bif Nat.beq c 2 then c0 else bif Nat.beq c 31 then k0 else 0) (c89 (V := W.view K [c0]) (hB0.viewJ 0 hJ) (h0_0.view _) hm) fun _ _ ⟨u0, e, f0, f1⟩ => ⟨u0, e, f0.one1.backN rfl, Bx.backJ 0 f1 rfl⟩

theorem c69 {V : CW} {x0 : Vm.l30Rd} {g0_ : Nat} {v0_0_ : Value} {r : Vm.Op × Int} (hB0 : Bx V 2 g0_ [v0_0_, vI x0.p]) (h0_0 : Rd V [0] [v0_0_] x0.b) (hm : Vm.spec_l30Op x0 = some r) : CallR Tryz.prog 69 [ptr (bx g0_)].toArray V.w (Res V LL fun Wf v => ∃ (u0_6 : Value), v = .agg [vI r.1.Kind, vS r.1.Branch, vS r.1.Who, vS r.1.Path, vS r.1.To, vI r.1.At, u0_6].toArray ∧ OwS Wf [31] [] [u0_6] r.1.Text ∧ Bx Wf 2 g0_ [v0_0_, vI r.2]) := by
 unfold Vm.spec_l30Op at hm
 obtain ⟨W0, hW0⟩ : ∃ W, W = V := ⟨V, rfl⟩
 subst hW0
 refine CallR.of Tryz.func69 rfl rfl rfl rfl (Cw.seq (Cw.region (Lw.t rfl (T.alloc 3 (cs := [vI 0, vS ([] : Str), vS ([] : Str), vS ([] : Str), vS ([] : Str), vI 0, .slice none 0 0]) rfl) ?_)))
 rintro _ _ ⟨g1, W1, rfl, rfl, l1, b1⟩
 have a2 := l1.o
 have b3 := hB0.up l1 rfl
 refine Lw.nil (Cw.seq (Cw.region (Lw.m (ptr (bx g0_)) rfl ?_)))
 obtain ⟨z5, e6, hm⟩ := ob hm
 refine Lw.t rfl (T.call rfl (p86 (K := [0])  (c0 := 2) (x0 := x0) b3 (h0_0.ul a2) rfl e6)) ?_
 rintro _ _ ⟨W7, rfl, l7, ⟨rfl, f7_0⟩⟩
 have a8 := a2.t l7 rfl
 refine Lw.m (ptr (bx g0_)) rfl (Lw.t rfl (T.bsS (α := Str) (xs := [([97, 110, 110] : Str), ([98, 111, 98] : Str), ([99, 105, 100] : Str)]) 4 [] (W := W7) [vS ([97, 110, 110] : Str), vS ([98, 111, 98] : Str), vS ([99, 105, 100] : Str)] (Each.cons ((rdS _)) (Each.cons ((rdS _)) (Each.cons ((rdS _)) Each.nil))) rfl) ?_)
 rintro v10 _ ⟨W10, rfl, l10, o10⟩
 have a11 := a8.n l10
 obtain ⟨z15, e16, hm⟩ := ob hm
 refine Lw.t rfl (T.call rfl (p87 (K := [0, 4])  (c0 := 2) (x0 := (Vm.l30Rd.mk x0.b z5.2)) (f7_0.up l10 rfl) ((h0_0.ul a11).sub (M := [0, 4]) rfl) (o10.rd.sub (M := [0, 4]) rfl) rfl e16)) ?_
 rintro _ _ ⟨W17, rfl, l17, ⟨rfl, f17_0⟩⟩
 have a18 := a11.t l17 rfl
 refine Lw.r rfl (R.bd (zs := [vI 0, vS ([] : Str), vS ([] : Str), vS ([] : Str), vS ([] : Str), vI 0, .slice none 0 0]) (cs := [vI 0, vS z5.1, vS z15.1, vS ([] : Str), vS ([] : Str), vI 0, .slice none 0 0]) [(1, vS z5.1), (2, vS z15.1)] rfl rfl rfl (bp_cons rfl rfl (bp_cons rfl rfl bp_nil))) (Lw.t rfl (T.alloc 5 (cs := [vI 0, vS ([] : Str), vS ([] : Str), vS ([] : Str), vS ([] : Str), vI 0, .slice none 0 0]) rfl) ?_)
 rintro _ _ ⟨g21, W21, rfl, rfl, l21, b21⟩
 have a22 := a18.n l21
 refine Lw.u (T.sta (vs := [vI 0, vS z5.1, vS z15.1, vS ([] : Str), vS ([] : Str), vI 0, .slice none 0 0]) b21 rfl rfl (oc_cons rfl (oc_cons rfl (oc_cons rfl (oc_cons rfl (oc_cons rfl (oc_cons rfl (oc_cons rfl oc_nil))))))) rfl rfl) ?_
 rintro _ _ ⟨W26, rfl, l26, b26⟩
 have a27 := a22.t l26 rfl
 refine Lw.nil ?_
 obtain ⟨K44, hK44, hm⟩ := jn_e hm
 refine Cw.join 10 61 [] (fun l w => ∃ (y31 : Int) (y33 : Int) (y34 : Str) (y35 : Str) (y36 : Str) (y37 : Str) (y38 : Int) (y39 : List Str) (v40 : Value) (W43 : CW), W43.w = w ∧ Le [2, 5, 8] W26 W43 ∧ l = [] ∧ Bx W43 2 g0_ [v0_0_, vI y31] ∧ Ow W43 6 [] [v40] y39 ∧ Bx W43 5 g21 [vI y33, vS y34, vS y35, vS y36, vS y37, vI y38, v40] ∧ K44 y31 y33 y34 y35 y36 y37 y38 y39 = some r) ?_ ?_
 ·rintro _ _ σ ⟨y31, y33, y34, y35, y36, y37, y38, y39, v40, W43, rfl, l43, rfl, b32, o41, b42, hm⟩
  rw [hK44] at hm
  have a45 := a27.t l43 rfl
  refine Cw.seq (Cw.region (Lw.r rfl (R.lda (cs := [vI y33, vS y34, vS y35, vS y36, vS y37, vI y38, v40]) b42.cells rfl rfl) (Lw.u (T.sta (vs := [vI y33, vS y34, vS y35, vS y36, vS y37, vI y38, v40]) ((((((b1.up l7 rfl).up l10 rfl).up l17 rfl).up l21 rfl).up l26 rfl).up l43 rfl) rfl rfl (oc_cons rfl (oc_cons rfl (oc_cons rfl (oc_cons rfl (oc_cons rfl (oc_cons rfl (oc_cons o41.oc oc_nil))))))) rfl rfl) ?_)))
  rintro _ _ ⟨W48, rfl, l48, b48⟩
  have a49 := a45.t l48 rfl
  refine Lw.nil ?_
  obtain ⟨W54, ew54, l54, o54⟩ := (o41.up l48 rfl).dyeO 31
  have a55 := a49.t l54 rfl
  cases hm
  rw [← ew54]
  exact Cw.ret (retA1 rfl (b48.up l54 rfl) (Res.mk a55 ⟨v40, rfl, o54.s, ((b32.up l48 rfl).up l54 rfl)⟩))
 ·refine Cw.seq (Cw.region (Lw.m (ptr (bx g0_)) rfl ?_))
  obtain ⟨z61, e62, hm⟩ := ob hm
  refine Lw.t rfl (T.call rfl (p48 (K := [0])  (c0 := 2) (x0 := (Vm.l30Rd.mk x0.b z15.2)) ((f17_0.up l21 rfl).up l26 rfl) (h0_0.ul a27) rfl e62)) ?_
  rintro _ _ ⟨W63, rfl, l63, ⟨rfl, f63_0⟩⟩
  have a64 := a27.t l63 rfl
  have b67 := b26.up l63 rfl
  refine Lw.nil (Cw.block (Cw.seq (Cw.region (Lw.eq rfl (Lw.g (vB ((z61.1 : Int) == (0 : Int))) rfl (Lw.nil (Cw.cond (b := ((z61.1 : Int) == (0 : Int))) rfl (fun hc68 => ?_) (fun hc68 => ?_))))))))
  ·replace hm := bt hm hc68
   refine Cw.seq (Cw.region (Lw.fa rfl (Lw.u (T.st (j := 0) (v := vI 2) b67 rfl rfl rfl rfl rfl) ?_)))
   rintro _ _ ⟨W69, rfl, l69, b69⟩
   have a70 := a64.t l69 rfl
   refine Lw.nil (Cw.region (Lw.m (ptr (bx g0_)) rfl ?_))
   obtain ⟨z75, e76, hm⟩ := ob hm
   refine Lw.t rfl (T.call rfl (p88 (K := [0])  (c0 := 2) (x0 := (Vm.l30Rd.mk x0.b z61.2)) (f63_0.up l69 rfl) (h0_0.ul a70) rfl e76)) ?_
   rintro _ _ ⟨W77, rfl, l77, ⟨rfl, f77_0⟩⟩
   refine Lw.fa rfl (Lw.u (T.st (j := 3) (v := vS z75.1) (b69.up l77 rfl) rfl rfl rfl rfl rfl) ?_)
   rintro _ _ ⟨W82, rfl, l82, b82⟩
   refine Lw.nil (⟨?_, ⟨z75.2, 2, z5.1, z15.1, z75.1, ([] : Str), 0, ([] : List Str), .slice none 0 0, W82, rfl, ((l63.sub rfl).trans ((l69.sub rfl).trans ((l77.sub rfl).trans (l82.sub rfl)))), rfl, (f77_0.up l82 rfl), owN 6 [], b82, hm⟩⟩)
   iterate 8 (refine .u ?_)
   exact Agree.refl _
  ·replace hm := bf hm hc68
   refine Cw.seq (Cw.region (Lw.eq rfl (Lw.g (vB ((z61.1 : Int) == (1 : Int))) rfl (Lw.nil (Cw.cond (b := ((z61.1 : Int) == (1 : Int))) rfl (fun hc87 => ?_) (fun hc87 => ?_))))))
   ·replace hm := bt hm hc87
    refine Cw.seq (Cw.region (Lw.fa rfl (Lw.u (T.st (j := 0) (v := vI 3) b67 rfl rfl rfl rfl rfl) ?_)))
    rintro _ _ ⟨W88, rfl, l88, b88⟩
    have a89 := a64.t l88 rfl
    refine Lw.nil (Cw.seq (Cw.region (Lw.m (ptr (bx g0_)) rfl ?_)))
    obtain ⟨z94, e95, hm⟩ := ob hm
    refine Lw.t rfl (T.call rfl (p88 (K := [0])  (c0 := 2) (x0 := (Vm.l30Rd.mk x0.b z61.2)) (f63_0.up l88 rfl) (h0_0.ul a89) rfl e95)) ?_
    rintro _ _ ⟨W96, rfl, l96, ⟨rfl, f96_0⟩⟩
    have a97 := a89.t l96 rfl
    refine Lw.fa rfl (Lw.u (T.st (j := 3) (v := vS z94.1) (b88.up l96 rfl) rfl rfl rfl rfl rfl) ?_)
    rintro _ _ ⟨W101, rfl, l101, b101⟩
    have a102 := a97.t l101 rfl
    refine Lw.nil (Cw.region (Lw.m (ptr (bx g0_)) rfl ?_))
    obtain ⟨z107, e108, hm⟩ := ob hm
    refine Lw.t rfl (T.call rfl (p88 (K := [0])  (c0 := 2) (x0 := (Vm.l30Rd.mk x0.b z94.2)) (f96_0.up l101 rfl) (h0_0.ul a102) rfl e108)) ?_
    rintro _ _ ⟨W109, rfl, l109, ⟨rfl, f109_0⟩⟩
    refine Lw.fa rfl (Lw.u (T.st (j := 4) (v := vS z107.1) (b101.up l109 rfl) rfl rfl rfl rfl rfl) ?_)
    rintro _ _ ⟨W114, rfl, l114, b114⟩
    refine Lw.nil (⟨?_, ⟨z107.2, 3, z5.1, z15.1, z94.1, z107.1, 0, ([] : List Str), .slice none 0 0, W114, rfl, ((l63.sub rfl).trans ((l88.sub rfl).trans ((l96.sub rfl).trans ((l101.sub rfl).trans ((l109.sub rfl).trans (l114.sub rfl)))))), rfl, (f109_0.up l114 rfl), owN 6 [], b114, hm⟩⟩)
    iterate 13 (refine .u ?_)
    exact Agree.refl _
   ·replace hm := bf hm hc87
    obtain ⟨K121, hK121, hm⟩ := jn_e hm
    refine Cw.join 34 36 [34] (fun l w => ∃ (y119 : Bool) (W120 : CW), W120.w = w ∧ Le [] W63 W120 ∧ l = [vB y119] ∧ K121 y119 = some r) ?_ ?_
    ·rintro _ _ σ ⟨y119, W120, rfl, l120, rfl, hm⟩
     rw [hK121] at hm
     have a122 := a64.n l120
     refine Cw.cond (b := y119) rfl (fun hc127 => ?_) (fun hc127 => ?_)
     ·replace hm := bt hm hc127
      refine Cw.seq (Cw.region (Lw.fa rfl (Lw.u (T.st (j := 0) (v := vI 4) (b67.up l120 rfl) rfl rfl rfl rfl rfl) ?_)))
      rintro _ _ ⟨W128, rfl, l128, b128⟩
      have a129 := a122.t l128 rfl
      refine Lw.nil (Cw.region (Lw.m (ptr (bx g0_)) rfl (Lw.t rfl (T.bsS (α := Str) (xs := [([115, 105, 100, 101] : Str), ([100, 101, 118] : Str), ([111, 108, 100] : Str)]) 7 [] (W := W128) [vS ([115, 105, 100, 101] : Str), vS ([100, 101, 118] : Str), vS ([111, 108, 100] : Str)] (Each.cons ((rdS _)) (Each.cons ((rdS _)) (Each.cons ((rdS _)) Each.nil))) rfl) ?_)))
      rintro v133 _ ⟨W133, rfl, l133, o133⟩
      have a134 := a129.n l133
      obtain ⟨z140, e141, hm⟩ := ob hm
      refine Lw.t rfl (T.call rfl (p87 (K := [0, 7])  (c0 := 2) (x0 := (Vm.l30Rd.mk x0.b z61.2)) (((f63_0.up l120 rfl).up l128 rfl).up l133 rfl) ((h0_0.ul a134).sub (M := [0, 7]) rfl) (o133.rd.sub (M := [0, 7]) rfl) rfl e141)) ?_
      rintro _ _ ⟨W142, rfl, l142, ⟨rfl, f142_0⟩⟩
      refine Lw.fa rfl (Lw.u (T.st (j := 4) (v := vS z140.1) ((b128.up l133 rfl).up l142 rfl) rfl rfl rfl rfl rfl) ?_)
      rintro _ _ ⟨W148, rfl, l148, b148⟩
      refine Lw.nil (⟨?_, ⟨z140.2, 4, z5.1, z15.1, ([] : Str), z140.1, 0, ([] : List Str), .slice none 0 0, W148, rfl, ((l63.sub rfl).trans ((l120.sub rfl).trans ((l128.sub rfl).trans ((l133.sub rfl).trans ((l142.sub rfl).trans (l148.sub rfl)))))), rfl, (f142_0.up l148 rfl), owN 6 [], b148, hm⟩⟩)
      iterate 6 (refine .u ?_)
      refine Agree.ov0 rfl ?_
      iterate 6 (refine .u ?_)
      exact Agree.refl _
     ·replace hm := bf hm hc127
      obtain ⟨K156, hK156, hm⟩ := jn_e hm
      refine Cw.join 42 45 [42] (fun l w => ∃ (y154 : Bool) (W155 : CW), W155.w = w ∧ Le [] W120 W155 ∧ l = [vB y154] ∧ K156 y154 = some r) ?_ ?_
      ·rintro _ _ σ ⟨y154, W155, rfl, l155, rfl, hm⟩
       rw [hK156] at hm
       have a157 := a122.n l155
       have b159 := (f63_0.up l120 rfl).up l155 rfl
       have b161 := (b67.up l120 rfl).up l155 rfl
       refine Cw.cond (b := y154) rfl (fun hc162 => ?_) (fun hc162 => ?_)
       ·replace hm := bt hm hc162
        refine Cw.seq (Cw.region (Lw.fa rfl (Lw.u (T.st (j := 0) (v := vI 5) b161 rfl rfl rfl rfl rfl) ?_)))
        rintro _ _ ⟨W163, rfl, l163, b163⟩
        have a164 := a157.t l163 rfl
        refine Lw.nil (Cw.region (Lw.m (ptr (bx g0_)) rfl ?_))
        obtain ⟨z169, e170, hm⟩ := ob hm
        refine Lw.t rfl (T.call rfl (p86 (K := [0])  (c0 := 2) (x0 := (Vm.l30Rd.mk x0.b z61.2)) (b159.up l163 rfl) (h0_0.ul a164) rfl e170)) ?_
        rintro _ _ ⟨W171, rfl, l171, ⟨rfl, f171_0⟩⟩
        refine Lw.fa rfl (Lw.u (T.st (j := 4) (v := vS z169.1) (b163.up l171 rfl) rfl rfl rfl rfl rfl) ?_)
        rintro _ _ ⟨W176, rfl, l176, b176⟩
        refine Lw.nil (⟨?_, ⟨z169.2, 5, z5.1, z15.1, ([] : Str), z169.1, 0, ([] : List Str), .slice none 0 0, W176, rfl, ((l63.sub rfl).trans ((l120.sub rfl).trans ((l155.sub rfl).trans ((l163.sub rfl).trans ((l171.sub rfl).trans (l176.sub rfl)))))), rfl, (f171_0.up l176 rfl), owN 6 [], b176, hm⟩⟩)
        iterate 5 (refine .u ?_)
        refine Agree.ov0 rfl ?_
        iterate 1 (refine .u ?_)
        refine Agree.ov0 rfl ?_
        iterate 6 (refine .u ?_)
        exact Agree.refl _
       ·replace hm := bf hm hc162
        refine Cw.seq (Cw.region (Lw.eq rfl (Lw.g (vB ((z61.1 : Int) == (7 : Int))) rfl (Lw.nil (Cw.cond (b := ((z61.1 : Int) == (7 : Int))) rfl (fun hc181 => ?_) (fun hc181 => ?_))))))
        ·replace hm := bt hm hc181
         refine Cw.seq (Cw.region (Lw.fa rfl (Lw.u (T.st (j := 0) (v := vI 6) b161 rfl rfl rfl rfl rfl) ?_)))
         rintro _ _ ⟨W182, rfl, l182, b182⟩
         have a183 := a157.t l182 rfl
         refine Lw.nil (Cw.region (Lw.m (ptr (bx g0_)) rfl ?_))
         obtain ⟨z188, e189, hm⟩ := ob hm
         refine Lw.t rfl (T.call rfl (p48 (K := [0])  (c0 := 2) (x0 := (Vm.l30Rd.mk x0.b z61.2)) (b159.up l182 rfl) (h0_0.ul a183) rfl e189)) ?_
         rintro _ _ ⟨W190, rfl, l190, ⟨rfl, f190_0⟩⟩
         refine Lw.fa rfl (Lw.u (T.st (j := 5) (v := vI z188.1) (b182.up l190 rfl) rfl rfl rfl rfl rfl) ?_)
         rintro _ _ ⟨W195, rfl, l195, b195⟩
         refine Lw.nil (⟨?_, ⟨z188.2, 6, z5.1, z15.1, ([] : Str), ([] : Str), z188.1, ([] : List Str), .slice none 0 0, W195, rfl, ((l63.sub rfl).trans ((l120.sub rfl).trans ((l155.sub rfl).trans ((l182.sub rfl).trans ((l190.sub rfl).trans (l195.sub rfl)))))), rfl, (f190_0.up l195 rfl), owN 6 [], b195, hm⟩⟩)
         iterate 7 (refine .u ?_)
         refine Agree.ov0 rfl ?_
         iterate 1 (refine .u ?_)
         refine Agree.ov0 rfl ?_
         iterate 6 (refine .u ?_)
         exact Agree.refl _
        ·replace hm := bf hm hc181
         refine Cw.seq (Cw.region (Lw.eq rfl (Lw.g (vB ((z61.1 : Int) == (8 : Int))) rfl (Lw.nil (Cw.cond (b := ((z61.1 : Int) == (8 : Int))) rfl (fun hc200 => ?_) (fun hc200 => ?_))))))
         ·replace hm := bt hm hc200
          refine Cw.seq (Cw.region (Lw.fa rfl (Lw.u (T.st (j := 0) (v := vI 7) b161 rfl rfl rfl rfl rfl) ?_)))
          rintro _ _ ⟨W201, rfl, l201, b201⟩
          have a202 := a157.t l201 rfl
          refine Lw.nil (Cw.region (Lw.m (ptr (bx g0_)) rfl ?_))
          obtain ⟨z207, e208, hm⟩ := ob hm
          refine Lw.t rfl (T.call rfl (p48 (K := [0])  (c0 := 2) (x0 := (Vm.l30Rd.mk x0.b z61.2)) (b159.up l201 rfl) (h0_0.ul a202) rfl e208)) ?_
          rintro _ _ ⟨W209, rfl, l209, ⟨rfl, f209_0⟩⟩
          refine Lw.fa rfl (Lw.u (T.st (j := 5) (v := vI z207.1) (b201.up l209 rfl) rfl rfl rfl rfl rfl) ?_)
          rintro _ _ ⟨W214, rfl, l214, b214⟩
          refine Lw.nil (⟨?_, ⟨z207.2, 7, z5.1, z15.1, ([] : Str), ([] : Str), z207.1, ([] : List Str), .slice none 0 0, W214, rfl, ((l63.sub rfl).trans ((l120.sub rfl).trans ((l155.sub rfl).trans ((l201.sub rfl).trans ((l209.sub rfl).trans (l214.sub rfl)))))), rfl, (f209_0.up l214 rfl), owN 6 [], b214, hm⟩⟩)
          iterate 9 (refine .u ?_)
          refine Agree.ov0 rfl ?_
          iterate 1 (refine .u ?_)
          refine Agree.ov0 rfl ?_
          iterate 6 (refine .u ?_)
          exact Agree.refl _
         ·replace hm := bf hm hc200
          refine Cw.seq (Cw.region (Lw.fa rfl (Lw.u (T.st (j := 0) (v := vI 1) b161 rfl rfl rfl rfl rfl) ?_)))
          rintro _ _ ⟨W219, rfl, l219, b219⟩
          have a220 := a157.t l219 rfl
          refine Lw.nil (Cw.seq (Cw.region (Lw.m (ptr (bx g0_)) rfl ?_)))
          obtain ⟨z225, e226, hm⟩ := ob hm
          refine Lw.t rfl (T.call rfl (p88 (K := [0])  (c0 := 2) (x0 := (Vm.l30Rd.mk x0.b z61.2)) (b159.up l219 rfl) (h0_0.ul a220) rfl e226)) ?_
          rintro _ _ ⟨W227, rfl, l227, ⟨rfl, f227_0⟩⟩
          have a228 := a220.t l227 rfl
          refine Lw.fa rfl (Lw.u (T.st (j := 3) (v := vS z225.1) (b219.up l227 rfl) rfl rfl rfl rfl rfl) ?_)
          rintro _ _ ⟨W232, rfl, l232, b232⟩
          have a233 := a228.t l232 rfl
          refine Lw.nil (Cw.region (Lw.m (ptr (bx g0_)) rfl ?_))
          obtain ⟨z238, e239, hm⟩ := ob hm
          refine Lw.t rfl (T.call rfl (p89 (K := [0]) (k0 := 8) (c0 := 2) (x0 := (Vm.l30Rd.mk x0.b z225.2)) (f227_0.up l232 rfl) (h0_0.ul a233) rfl e239)) ?_
          rintro v0_240 _ ⟨W240, rfl, l240, ⟨_, rfl, f240_0, f240_1⟩⟩
          refine Lw.fa rfl (Lw.u (T.st (j := 6) (v := v0_240) (b232.up l240 rfl) rfl rfl f240_0.oc rfl rfl) ?_)
          rintro _ _ ⟨W245, rfl, l245, b245⟩
          refine Lw.nil ?_
          obtain ⟨W251, ew251, l251, o251⟩ := (f240_0.up l245 rfl).dyeO 6
          refine ⟨?_, ⟨z238.2, 1, z5.1, z15.1, z225.1, ([] : Str), 0, z238.1, v0_240, W251, ew251, ((l63.sub rfl).trans ((l120.sub rfl).trans ((l155.sub rfl).trans ((l219.sub rfl).trans ((l227.sub rfl).trans ((l232.sub rfl).trans ((l240.sub rfl).trans ((l245.sub rfl).trans (l251.sub rfl))))))))), rfl, ((f240_1.up l245 rfl).up l251 rfl), o251, (b245.up l251 rfl), hm⟩⟩
          iterate 12 (refine .u ?_)
          refine Agree.ov0 rfl ?_
          iterate 1 (refine .u ?_)
          refine Agree.ov0 rfl ?_
          iterate 6 (refine .u ?_)
          exact Agree.refl _
      ·refine Cw.seq (Cw.region (Lw.eq rfl (Lw.g (vB ((z61.1 : Int) == (4 : Int))) rfl (Lw.nil (Cw.cond (b := ((z61.1 : Int) == (4 : Int))) rfl (fun hc257 => ?_) (fun hc257 => ?_))))))
       ·replace hm := bt hm hc257
        refine Cw.skip (⟨?_, ⟨((z61.1 : Int) == (4 : Int)), W120, rfl, Le.refl _ _, rfl, hm⟩⟩)
        iterate 2 (refine .u ?_)
        exact Agree.refl _
       ·replace hm := bf hm hc257
        refine Cw.seq (Cw.region (Lw.eq rfl (Lw.g (vB ((z61.1 : Int) == (5 : Int))) rfl (Lw.nil (Cw.cond (b := ((z61.1 : Int) == (5 : Int))) rfl (fun hc258 => ?_) (fun hc258 => ?_))))))
        ·replace hm := bt hm hc258
         refine Cw.skip (⟨?_, ⟨((z61.1 : Int) == (5 : Int)), W120, rfl, Le.refl _ _, rfl, hm⟩⟩)
         iterate 4 (refine .u ?_)
         exact Agree.refl _
        ·replace hm := bf hm hc258
         refine Cw.region (Lw.eq rfl (Lw.g (vB ((z61.1 : Int) == (6 : Int))) rfl (Lw.nil (⟨?_, ⟨((z61.1 : Int) == (6 : Int)), W120, rfl, Le.refl _ _, rfl, hm⟩⟩))))
         iterate 6 (refine .u ?_)
         exact Agree.refl _
    ·refine Cw.seq (Cw.region (Lw.eq rfl (Lw.g (vB ((z61.1 : Int) == (2 : Int))) rfl (Lw.nil (Cw.cond (b := ((z61.1 : Int) == (2 : Int))) rfl (fun hc259 => ?_) (fun hc259 => ?_))))))
     ·replace hm := bt hm hc259
      refine Cw.skip (⟨?_, ⟨((z61.1 : Int) == (2 : Int)), W63, rfl, Le.refl _ _, rfl, hm⟩⟩)
      iterate 2 (refine .u ?_)
      exact Agree.refl _
     ·replace hm := bf hm hc259
      refine Cw.region (Lw.eq rfl (Lw.g (vB ((z61.1 : Int) == (3 : Int))) rfl (Lw.nil (⟨?_, ⟨((z61.1 : Int) == (3 : Int)), W63, rfl, Le.refl _ _, rfl, hm⟩⟩))))
      iterate 4 (refine .u ?_)
      exact Agree.refl _

theorem p69 {W : CW} {K : List Nat} {x0 : Vm.l30Rd} {g0_ : Nat} {v0_0_ : Value} {k0 : Nat} {c0 : Nat} {r : Vm.Op × Int} (hB0 : Bx W c0 g0_ [v0_0_, vI x0.p]) (h0_0 : Rd W K [v0_0_] x0.b) (hJ : okJ K [c0] = true) (hm : Vm.spec_l30Op x0 = some r) : CallR Tryz.prog 69 [ptr (bx g0_)].toArray W.w (Res W [c0] fun W' v => ∃ (u0_6 : Value), v = .agg [vI r.1.Kind, vS r.1.Branch, vS r.1.Who, vS r.1.Path, vS r.1.To, vI r.1.At, u0_6].toArray ∧ Ow W' k0 [] [u0_6] r.1.Text ∧ Bx W' c0 g0_ [v0_0_, vI r.2]) :=
 CallR.adJ (J := [c0]) (fun c => bif Nat.beq c 0 then 0 else bif Nat.beq c 2 then c0 else bif Nat.beq c 31 then k0 else 0) (c69 (V := W.view K [c0]) (hB0.viewJ 0 hJ) (h0_0.view _) hm) fun _ _ ⟨u0_6, e, f0, f1⟩ => ⟨u0_6, e, f0.one1.backN rfl, Bx.backJ 0 f1 rfl⟩

theorem c60 {V : CW} {x0 : Vm.l30Rd} {g0_ : Nat} {v0_0_ : Value} {r : (List Vm.Op) × Int} (hB0 : Bx V 2 g0_ [v0_0_, vI x0.p]) (h0_0 : Rd V [0] [v0_0_] x0.b) (hm : Vm.spec_l30Ops x0 = some r) : CallR Tryz.prog 60 [ptr (bx g0_)].toArray V.w (Res V LL fun Wf v => ∃ (u0 : Value), v = u0 ∧ OwS Wf [31] [] [u0] r.1 ∧ Bx Wf 2 g0_ [v0_0_, vI r.2]) := by
 unfold Vm.spec_l30Ops at hm
 obtain ⟨W0, hW0⟩ : ∃ W, W = V := ⟨V, rfl⟩
 subst hW0
 refine CallR.of Tryz.func60 rfl rfl rfl rfl (Cw.seq (Cw.region (Lw.g (.slice none 0 0) rfl (Lw.nil (Cw.seq (Cw.region (Lw.t rfl (T.lit0 (α := Vm.Op) 3 []) ?_)))))))
 rintro v1 _ ⟨W1, rfl, l1, o1⟩
 have a2 := l1.o
 have b3 := hB0.up l1 rfl
 refine Lw.g v1 rfl (Lw.nil (Cw.seq (Cw.seq (Cw.region (Lw.m (ptr (bx g0_)) rfl (Lw.t rfl (T.bsS (α := Int) (xs := [0, 3, 8, 14, 20]) 4 [] (W := W1) [vI 0, vI 3, vI 8, vI 14, vI 20] (Each.cons ((rdI _)) (Each.cons ((rdI _)) (Each.cons ((rdI _)) (Each.cons ((rdI _)) (Each.cons ((rdI _)) Each.nil))))) rfl) ?_))))))
 rintro v4 _ ⟨W4, rfl, l4, o4⟩
 have a5 := a2.n l4
 obtain ⟨z9, e10, hm⟩ := ob hm
 refine Lw.t rfl (T.call rfl (p49 (K := [0, 4])  (c0 := 2) (x0 := x0) (b3.up l4 rfl) ((h0_0.ul a5).sub (M := [0, 4]) rfl) (o4.rd.sub (M := [0, 4]) rfl) rfl e10)) ?_
 rintro _ _ ⟨W11, rfl, l11, ⟨rfl, f11_0⟩⟩
 have a12 := a5.t l11 rfl
 refine Lw.g (vI z9.1) rfl (Lw.nil (Cw.block ?_))
 obtain ⟨K22, hK22, hm⟩ := jn_e hm
 refine Cw.loop 9 17 [3, 4] (fun m l w => ∃ (y15 : List Vm.Op) (y18 : Int) (y19 : Int) (v16 : Value) (W21 : CW), W21.w = w ∧ Le [2, 3, 5] W11 W21 ∧ l = [v16, vI y18] ∧ Ow W21 3 [] [v16] y15 ∧ Bx W21 2 g0_ [v0_0_, vI y19] ∧ Vm.spec_l30Ops_l1 x0 K22 m y15 y18 y19 = some r) ((z9.1 - 0).toNat + 1) ⟨([] : List Vm.Op), z9.1, z9.2, v1, W11, rfl, Le.refl _ _, rfl, ((o1.up l4 rfl).up l11 rfl), f11_0, hm⟩ ?_
 rintro m23 _ _ σ ⟨y15, y18, y19, v16, W21, rfl, l21, rfl, o17, b20, hm⟩
 obtain _ | m23 := m23
 ·cases hm
 unfold Vm.spec_l30Ops_l1 at hm
 have a24 := a12.t l21 rfl
 refine Cw.seq (Cw.seq (Cw.region (Lw.m (vI y18) rfl (Lw.gt rfl (Lw.nil (Cw.cond (b := decide ((0 : Int) < (y18 : Int))) rfl (fun hc26 => ?_) (fun hc26 => ?_)))))))
 ·replace hm := bt hm hc26
  refine Cw.skip (Cw.seq (Cw.block (Cw.region (Lw.m v16 rfl (Lw.m (ptr (bx g0_)) rfl ?_)))))
  obtain ⟨z28, e29, hm⟩ := ob hm
  refine Lw.t rfl (T.call rfl (p69 (K := [0]) (k0 := 5) (c0 := 2) (x0 := (Vm.l30Rd.mk x0.b y19)) b20 (h0_0.ul a24) rfl e29)) ?_
  rintro _ _ ⟨W30, rfl, l30, ⟨v0_6_30, rfl, f30_0, f30_1⟩⟩
  refine Lw.t rfl (T.bs 6 [.agg [vI z28.1.Kind, vS z28.1.Branch, vS z28.1.Who, vS z28.1.Path, vS z28.1.To, vI z28.1.At, v0_6_30].toArray] (cs := [vI z28.1.Kind, vS z28.1.Branch, vS z28.1.Who, vS z28.1.Path, vS z28.1.To, vI z28.1.At, v0_6_30]) rfl rfl (bsA rfl)) ?_
  rintro _ _ ⟨g34, W34, rfl, rfl, l34, b34⟩
  obtain ⟨q40, e41, hm⟩ := ob hm
  refine Lw.t rfl (T.app1 (α := Vm.Op) (J := [5]) (K' := []) ((o17.up l30 rfl).up l34 rfl) b34 (Op.own z28.1.Kind z28.1.Branch z28.1.Who z28.1.Path z28.1.To z28.1.At z28.1.Text (f30_0.up l34 rfl).s) rfl rfl e41) ?_
  rintro v42 _ ⟨W42, rfl, l42, o42⟩
  refine Lw.g v42 rfl (Lw.nil (Cw.region (Lw.m (vI y18) rfl (Lw.sub rfl (Lw.g (vI (w64 (y18 - 1))) rfl (Lw.nil (⟨?_, m23, Nat.lt_succ_self m23, ⟨q40, w64 (y18 - 1), z28.2, v42, W42, rfl, (l21.trans ((l30.sub rfl).trans ((l34.sub rfl).trans (l42.sub rfl)))), rfl, o42, ((f30_1.up l34 rfl).up l42 rfl), hm⟩⟩)))))))
  iterate 13 (refine .u ?_)
  exact Agree.base
 ·replace hm := bf hm hc26
  refine Cw.exit ?_
  rw [hK22] at hm
  refine Cw.seq (Cw.region (Lw.m v16 rfl (Lw.g v16 rfl (Lw.nil ?_))))
  obtain ⟨W47, ew47, l47, o47⟩ := o17.dyeO 31
  have a48 := a24.t l47 rfl
  cases hm
  rw [← ew47]
  exact Cw.ret (ret1 rfl (Res.mk a48 ⟨v16, rfl, o47.s, (b20.up l47 rfl)⟩))

theorem p60 {W : CW} {K : List Nat} {x0 : Vm.l30Rd} {g0_ : Nat} {v0_0_ : Value} {k0 : Nat} {c0 : Nat} {r : (List Vm.Op) × Int} (hB0 : Bx W c0 g0_ [v0_0_, vI x0.p]) (h0_0 : Rd W K [v0_0_] x0.b) (hJ : okJ K [c0] = true) (hm : Vm.spec_l30Ops x0 = some r) : CallR Tryz.prog 60 [ptr (bx g0_)].toArray W.w (Res W [c0] fun W' v => ∃ (u0 : Value), v = u0 ∧ Ow W' k0 [] [u0] r.1 ∧ Bx W' c0 g0_ [v0_0_, vI r.2]) :=
 CallR.adJ (J := [c0]) (fun c => bif Nat.beq c 0 then 0 else bif Nat.beq c 2 then c0 else bif Nat.beq c 31 then k0 else 0) (c60 (V := W.view K [c0]) (hB0.viewJ 0 hJ) (h0_0.view _) hm) fun _ _ ⟨u0, e, f0, f1⟩ => ⟨u0, e, f0.one1.backN rfl, Bx.backJ 0 f1 rfl⟩

theorem c31 {V : CW} {x0 : Int} {x1 : Int} {x2 : Int} {r : Bool}  (hm : Vm.spec_l1In x0 x1 x2 = some r) : CallR Tryz.prog 31 [vI x0, vI x1, vI x2].toArray V.w (Res V LL fun Wf v => v = vB r) := by
 unfold Vm.spec_l1In at hm
 obtain ⟨W0, hW0⟩ : ∃ W, W = V := ⟨V, rfl⟩
 subst hW0
 refine CallR.of Tryz.func31 rfl rfl rfl rfl (Cw.seq (Cw.region (Lw.g (vB false) rfl (Lw.nil ?_))))
 obtain ⟨K3, hK3, hm⟩ := jn_e hm
 refine Cw.join 7 14 [6] (fun l w => ∃ (y1 : Bool) (W2 : CW), W2.w = w ∧ Le [] W0 W2 ∧ l = [vB y1] ∧ K3 y1 = some r) ?_ ?_
 ·rintro _ _ σ ⟨y1, W2, rfl, l2, rfl, hm⟩
  rw [hK3] at hm
  have a4 := l2.o
  cases hm
  exact Cw.ret (ret1 rfl (Res.mk a4 rfl))
 ·refine Cw.region (Lw.m (vI x0) rfl (Lw.m (vI x1) rfl (Lw.ge rfl (Lw.m (vB (decide ((x1 : Int) ≤ (x0 : Int)))) rfl (bsplit (decide ((x1 : Int) ≤ (x0 : Int))) (fun hc5 => ?_) (fun hc5 => ?_))))))
  ·replace hm := bt hm hc5
   refine Lw.wa hc5 rfl (Lw.m (vI x0) rfl (Lw.wa hc5 rfl (Lw.m (vI x2) rfl (Lw.wa hc5 rfl (Lw.le rfl (Lw.p hc5 (vB (decide ((x0 : Int) ≤ (x2 : Int)))) rfl (Lw.g (vB (decide ((x0 : Int) ≤ (x2 : Int)))) rfl (Lw.nil (⟨?_, ⟨decide ((x0 : Int) ≤ (x2 : Int)), W0, rfl, Le.refl _ _, rfl, hm⟩⟩)))))))))
   iterate 9 (refine .u ?_)
   exact Agree.refl _
  ·replace hm := bf hm hc5
   refine Lw.ps hc5 rfl (Lw.ps hc5 rfl (Lw.ps hc5 rfl (Lw.p hc5 (vB false) rfl (Lw.g (vB false) rfl (Lw.nil (⟨?_, ⟨false, W0, rfl, Le.refl _ _, rfl, hm⟩⟩))))))
   iterate 9 (refine .u ?_)
   exact Agree.refl _

theorem p31 {W : CW} {K : List Nat} {x0 : Int} {x1 : Int} {x2 : Int} {r : Bool}  (hm : Vm.spec_l1In x0 x1 x2 = some r) : CallR Tryz.prog 31 [vI x0, vI x1, vI x2].toArray W.w (Res W [] fun W' v => v = vB r) :=
 (c31 (V := W.view K [])  hm).ad (fk 0) fun _ _ e => e

theorem c51 {V : CW} {x0 : Str} {r : Bool}  (hm : Vm.spec_l4Name x0 = some r) : CallR Tryz.prog 51 [vS x0].toArray V.w (Res V LL fun Wf v => v = vB r) := by
 unfold Vm.spec_l4Name at hm
 obtain ⟨W0, hW0⟩ : ∃ W, W = V := ⟨V, rfl⟩
 subst hW0
 refine CallR.of Tryz.func51 rfl rfl rfl rfl (Cw.seq (Cw.region (Lw.g (vB false) rfl (Lw.nil (Cw.seq (Cw.seq (Cw.region (Lw.g (vI 0) rfl (Lw.nil (Cw.block ?_))))))))))
 obtain ⟨K4, hK4, hm⟩ := jn_e hm
 refine Cw.loop 4 31 [2, 3] (fun m l w => ∃ (y1 : Bool) (y2 : Int) (W3 : CW), W3.w = w ∧ Le [] W0 W3 ∧ l = [vB y1, vI y2] ∧ Vm.spec_l4Name_l1 x0 K4 m y1 y2 = some r) (((x0.length : Int) - 0).toNat + 1) ⟨false, 0, W0, rfl, Le.refl _ _, rfl, hm⟩ ?_
 rintro m5 _ _ σ ⟨y1, y2, W3, rfl, l3, rfl, hm⟩
 obtain _ | m5 := m5
 ·cases hm
 unfold Vm.spec_l4Name_l1 at hm
 have a6 := l3.o
 refine Cw.seq (Cw.seq (Cw.region (Lw.m (vI y2) rfl (Lw.m (vS x0) rfl (Lw.r rfl (R.lenS rfl) (Lw.lt rfl (Lw.nil (Cw.cond (b := decide ((y2 : Int) < ((x0.length : Int) : Int))) rfl (fun hc7 => ?_) (fun hc7 => ?_)))))))))
 ·replace hm := bt hm hc7
  refine Cw.skip (Cw.seq (Cw.block ?_))
  obtain ⟨K10, hK10, hm⟩ := jn_e hm
  refine Cw.join 10 31 [31] (fun l w => ∃ (y8 : Bool) (W9 : CW), W9.w = w ∧ Le [] W3 W9 ∧ l = [vB y8] ∧ K10 y8 = some r) ?_ ?_
  ·rintro _ _ σ ⟨y8, W9, rfl, l9, rfl, hm⟩
   rw [hK10] at hm
   have a11 := a6.n l9
   refine Cw.cond (b := y8) rfl (fun hc12 => ?_) (fun hc12 => ?_)
   ·replace hm := bt hm hc12
    refine Cw.seq (Cw.region (Lw.g (vB false) rfl (Lw.nil ?_)))
    cases hm
    exact Cw.ret (ret1 rfl (Res.mk a11 rfl))
   ·replace hm := bf hm hc12
    refine Cw.skip (Cw.region (Lw.m (vI y2) rfl (Lw.add rfl (Lw.g (vI (w64 (y2 + 1))) rfl (Lw.nil (⟨?_, m5, Nat.lt_succ_self m5, ⟨y1, w64 (y2 + 1), W9, rfl, (l3.trans l9), rfl, hm⟩⟩))))))
    iterate 4 (refine .u ?_)
    refine Agree.ov0 rfl ?_
    iterate 6 (refine .u ?_)
    exact Agree.base
  ·refine Cw.region (Lw.m (vS x0) rfl (Lw.m (vI y2) rfl ?_))
   obtain ⟨u13, e14, hm⟩ := ob hm
   refine Lw.r rfl (R.chm e14 rfl rfl) (Lw.lt rfl (Lw.m (vB (decide (((UInt8.toNat u13 : Int) : Int) < (97 : Int)))) rfl (bsplit (decide (((UInt8.toNat u13 : Int) : Int) < (97 : Int))) (fun hc15 => ?_) (fun hc15 => ?_))))
   ·replace hm := bt hm hc15
    refine Lw.ps hc15 rfl (Lw.ps hc15 rfl (Lw.ps hc15 rfl (Lw.ps hc15 rfl (Lw.p hc15 (vB true) rfl (Lw.m (vB true) rfl (Lw.wa rfl rfl (Lw.m (vS x0) rfl (Lw.wa rfl rfl (Lw.m (vI y2) rfl (Lw.wa rfl rfl ?_))))))))))
    obtain ⟨u16, e17, hm⟩ := ob hm
    refine Lw.r rfl (R.chm e17 rfl rfl) (Lw.wa rfl rfl (Lw.lt rfl (Lw.wa rfl rfl (Lw.m (vB (decide (((UInt8.toNat u16 : Int) : Int) < (48 : Int)))) rfl (bsplit (decide (((UInt8.toNat u16 : Int) : Int) < (48 : Int))) (fun hc18 => ?_) (fun hc18 => ?_))))))
    ·replace hm := bt hm hc18
     refine Lw.ps hc18 rfl (Lw.ps hc18 rfl (Lw.ps hc18 rfl (Lw.ps hc18 rfl (Lw.wa rfl rfl (Lw.p hc18 (vB true) rfl (Lw.p rfl (vB true) rfl (Lw.nil (⟨?_, ⟨true, W3, rfl, Le.refl _ _, rfl, hm⟩⟩))))))))
     iterate 22 (refine .u ?_)
     exact Agree.refl _
    ·replace hm := bf hm hc18
     refine Lw.wa hc18 rfl (Lw.m (vS x0) rfl (Lw.wa hc18 rfl (Lw.m (vI y2) rfl (Lw.wa hc18 rfl ?_))))
     obtain ⟨u19, e20, hm⟩ := ob hm
     refine Lw.r rfl (R.chm e20 rfl rfl) (Lw.wa hc18 rfl (Lw.gt rfl (Lw.wa rfl rfl (Lw.p hc18 (vB (decide ((57 : Int) < ((UInt8.toNat u19 : Int) : Int)))) rfl (Lw.p rfl (vB (decide ((57 : Int) < ((UInt8.toNat u19 : Int) : Int)))) rfl (Lw.nil (⟨?_, ⟨decide ((57 : Int) < ((UInt8.toNat u19 : Int) : Int)), W3, rfl, Le.refl _ _, rfl, hm⟩⟩)))))))
     iterate 22 (refine .u ?_)
     exact Agree.refl _
   ·replace hm := bf hm hc15
    refine Lw.wa hc15 rfl (Lw.m (vS x0) rfl (Lw.wa hc15 rfl (Lw.m (vI y2) rfl (Lw.wa hc15 rfl ?_))))
    obtain ⟨u21, e22, hm⟩ := ob hm
    refine Lw.r rfl (R.chm e22 rfl rfl) (Lw.wa hc15 rfl (Lw.gt rfl (Lw.p hc15 (vB (decide ((122 : Int) < ((UInt8.toNat u21 : Int) : Int)))) rfl (Lw.m (vB (decide ((122 : Int) < ((UInt8.toNat u21 : Int) : Int)))) rfl (bsplit (decide ((122 : Int) < ((UInt8.toNat u21 : Int) : Int))) (fun hc23 => ?_) (fun hc23 => ?_))))))
    ·replace hm := bt hm hc23
     refine Lw.wa hc23 rfl (Lw.m (vS x0) rfl (Lw.wa hc23 rfl (Lw.m (vI y2) rfl (Lw.wa hc23 rfl ?_))))
     obtain ⟨u24, e25, hm⟩ := ob hm
     refine Lw.r rfl (R.chm e25 rfl rfl) (Lw.wa hc23 rfl (Lw.lt rfl (Lw.wa hc23 rfl (Lw.m (vB (decide (((UInt8.toNat u24 : Int) : Int) < (48 : Int)))) rfl (bsplit (decide (((UInt8.toNat u24 : Int) : Int) < (48 : Int))) (fun hc26 => ?_) (fun hc26 => ?_))))))
     ·replace hm := bt hm hc26
      refine Lw.ps hc26 rfl (Lw.ps hc26 rfl (Lw.ps hc26 rfl (Lw.ps hc26 rfl (Lw.wa hc23 rfl (Lw.p hc26 (vB true) rfl (Lw.p hc23 (vB true) rfl (Lw.nil (⟨?_, ⟨true, W3, rfl, Le.refl _ _, rfl, hm⟩⟩))))))))
      iterate 22 (refine .u ?_)
      exact Agree.refl _
     ·replace hm := bf hm hc26
      refine Lw.wa hc26 rfl (Lw.m (vS x0) rfl (Lw.wa hc26 rfl (Lw.m (vI y2) rfl (Lw.wa hc26 rfl ?_))))
      obtain ⟨u27, e28, hm⟩ := ob hm
      refine Lw.r rfl (R.chm e28 rfl rfl) (Lw.wa hc26 rfl (Lw.gt rfl (Lw.wa hc23 rfl (Lw.p hc26 (vB (decide ((57 : Int) < ((UInt8.toNat u27 : Int) : Int)))) rfl (Lw.p hc23 (vB (decide ((57 : Int) < ((UInt8.toNat u27 : Int) : Int)))) rfl (Lw.nil (⟨?_, ⟨decide ((57 : Int) < ((UInt8.toNat u27 : Int) : Int)), W3, rfl, Le.refl _ _, rfl, hm⟩⟩)))))))
      iterate 22 (refine .u ?_)
      exact Agree.refl _
    ·replace hm := bf hm hc23
     refine Lw.ps hc23 rfl (Lw.ps hc23 rfl (Lw.ps hc23 rfl (Lw.ps hc23 rfl (Lw.ps hc23 rfl (Lw.pu rfl (Lw.pu rfl (Lw.pu rfl (Lw.pu rfl (Lw.ps hc23 rfl (Lw.p hc23 (vB false) rfl (Lw.nil (⟨?_, ⟨false, W3, rfl, Le.refl _ _, rfl, hm⟩⟩))))))))))))
     iterate 22 (refine .u ?_)
     exact Agree.refl _
 ·replace hm := bf hm hc7
  refine Cw.exit ?_
  rw [hK4] at hm
  refine Cw.seq (Cw.region (Lw.m (vS x0) rfl (Lw.r rfl (R.lenS rfl) ?_)))
  obtain ⟨z29, e30, hm⟩ := ob hm
  refine Lw.t rfl (T.call rfl (p31 (K := [0])   e30)) ?_
  rintro _ _ ⟨W31, rfl, l31, rfl⟩
  have a32 := a6.n l31
  refine Lw.g (vB z29) rfl (Lw.nil ?_)
  cases hm
  exact Cw.ret (ret1 rfl (Res.mk a32 rfl))

theorem p51 {W : CW} {K : List Nat} {x0 : Str} {r : Bool}  (hm : Vm.spec_l4Name x0 = some r) : CallR Tryz.prog 51 [vS x0].toArray W.w (Res W [] fun W' v => v = vB r) :=
 (c51 (V := W.view K [])  hm).ad (fk 0) fun _ _ e => e

end Go.Sx
