/- Walks: each function answers as its model, printed by a program of ours. Conditions: the arguments read as they are given. -/
import Derived.Test.YtjdljoplpcakpaaXTs
import Derived.Test.YtjdljoplpcakpaaXMd
import Derived.Test.YtjdljoplpcakpaaXW0
namespace Go.Sx
open Go Go.Proofs Go.Vm Rp
set_option linter.unusedVariables false
set_option linter.unusedSimpArgs false

theorem c58 {V : CW} {x0 : List Byte} {v0_ : Value} {r : Vm.l30Rd} (h0 : Rd V [0] [v0_] x0) (hm : Vm.spec_l30Open x0 = some r) : CallR Try.prog 58 [v0_].toArray V.w (Res V LL fun Wf v => ∃ (ug0 : Nat) (u0_0 : Value), v = ptr (bx ug0) ∧ Bx Wf 31 ug0 [u0_0, vI r.p] ∧ Rd Wf [0] [u0_0] r.b) := by
 unfold Vm.spec_l30Open at hm
 obtain ⟨W0, hW0⟩ : ∃ W, W = V := ⟨V, rfl⟩
 subst hW0
 refine CallR.of Try.func58 rfl rfl rfl rfl (Cw.seq (Cw.region (Lw.g (.pointer none) rfl (Lw.nil ?_))))
 obtain ⟨K5, hK5, hm⟩ := jn_e hm
 refine Cw.join 3 7 [0] (fun l w => ∃ (y1 : List Byte) (v2 : Value) (W4 : CW), W4.w = w ∧ Le [] W0 W4 ∧ l = [v2] ∧ Rd W4 [0] [v2] y1 ∧ K5 y1 = some r) ?_ ?_
 ·rintro _ _ σ ⟨y1, v2, W4, rfl, l4, rfl, r3, hm⟩
  rw [hK5] at hm
  have a6 := l4.o
  refine Cw.seq (Cw.region (Lw.m v2 rfl (Lw.r rfl (R.bd (zs := [.slice none 0 0, vI 0]) (cs := [v2, vI 0]) [(0, v2)] rfl rfl rfl (bp_cons r3.oc rfl bp_nil)) (Lw.t rfl (T.box 2 (v := .agg [v2, vI 0].toArray) (cs := [v2, vI 0]) rfl rfl) ?_))))
  rintro _ _ ⟨g7, W7, rfl, rfl, l7, b7⟩
  have a8 := l7.o
  refine Lw.g (ptr (bx g7)) rfl (Lw.nil ?_)
  obtain ⟨W9, ew9, l9, b9⟩ := b7.dyeO 31
  have a10 := l9.s rfl
  cases hm
  rw [← ew9]
  exact Cw.ret (ret1 rfl (Res.mk ((a6.trans a8).trans a10) ⟨g7, v2, rfl, b9, (r3.ul (a8.trans a10))⟩))
 ·refine Cw.seq (Cw.region (Lw.m v0_ rfl (Lw.ln x0 h0 rfl (Lw.gt rfl (Lw.nil (Cw.cond (b := decide ((2000 : Int) < ((x0.length : Int) : Int))) rfl (fun hc12 => ?_) (fun hc12 => ?_)))))))
  ·replace hm := bt hm hc12
   refine Cw.region (Lw.m v0_ rfl ?_)
   obtain ⟨q13, e14, hm⟩ := ob hm
   have r16 := h0.cutV e14
   refine Lw.r rfl (R.sl h0 e14 rfl (.inl ⟨rfl, rfl⟩) (.inr rfl)) (Lw.g ((cutV v0_ (0 : Int).toNat (2000 : Int).toNat (Rp.sz (Byte)))) rfl (Lw.nil (⟨?_, ⟨q13, (cutV v0_ (0 : Int).toNat (2000 : Int).toNat (Rp.sz (Byte))), W0, rfl, Le.refl _ _, rfl, r16, hm⟩⟩)))
   iterate 6 (refine Agree.up rfl ?_)
   exact Agree.refl _
  ·replace hm := bf hm hc12
   refine Cw.skip (⟨?_, ⟨x0, v0_, W0, rfl, Le.refl _ _, rfl, h0, hm⟩⟩)
   iterate 3 (refine Agree.up rfl ?_)
   exact Agree.refl _

theorem p58 {W : CW} {K : List Nat} {x0 : List Byte} {v0_ : Value} {k0 : Nat} {r : Vm.l30Rd} (h0 : Rd W K [v0_] x0) (hm : Vm.spec_l30Open x0 = some r) : CallR Try.prog 58 [v0_].toArray W.w (Res W [] fun W' v => ∃ (ug0 : Nat) (u0_0 : Value), v = ptr (bx ug0) ∧ Bx W' k0 ug0 [u0_0, vI r.p] ∧ Rd W' (0 :: K) [u0_0] r.b) :=
 CallR.adJ (J := []) (fun c => bif Nat.beq c 0 then 0 else bif Nat.beq c 31 then k0 else 0) (c58 (V := W.view K []) (h0.view _) hm) fun _ _ ⟨ug0, u0_0, e, f0, f1⟩ => ⟨ug0, u0_0, e, f0.backN rfl, f1.back rfl⟩

theorem c79 {V : CW} {x0 : Vm.l30Rd} {g0_ : Nat} {v0_0_ : Value} {x1 : Int} {r : Int × Int} (hB0 : Bx V 2 g0_ [v0_0_, vI x0.p]) (h0_0 : Rd V [0] [v0_0_] x0.b) (hm : Vm.spec_l30Rd_pick x0 x1 = some r) : CallR Try.prog 79 [ptr (bx g0_), vI x1].toArray V.w (Res V LL fun Wf v => v = vI r.1 ∧ Bx Wf 2 g0_ [v0_0_, vI r.2]) := by
 unfold Vm.spec_l30Rd_pick at hm
 obtain ⟨W0, hW0⟩ : ∃ W, W = V := ⟨V, rfl⟩
 subst hW0
 refine CallR.of Try.func79 rfl rfl rfl rfl (Cw.seq (Cw.region (Lw.g (vI 0) rfl (Lw.nil (Cw.seq (Cw.region (Lw.m (ptr (bx g0_)) rfl (Lw.m (ptr (bx g0_)) rfl (Lw.r rfl (R.nc rfl) (Lw.fa rfl (Lw.r rfl (R.ld (v := vI x0.p) rfl rfl (hB0.cell rfl)) (Lw.add rfl (Lw.r rfl (R.nc rfl) (Lw.fa rfl (Lw.u (T.st (j := 1) (v := vI (w64 (x0.p + 1))) hB0 rfl rfl rfl rfl rfl) ?_)))))))))))))))
 rintro _ _ ⟨W1, rfl, l1, b1⟩
 have a2 := l1.s rfl
 refine Lw.nil (Cw.seq ?_)
 obtain ⟨K5, hK5, hm⟩ := jn_e hm
 refine Cw.join 15 24 [24] (fun l w => ∃ (y3 : Bool) (W4 : CW), W4.w = w ∧ Le [] W1 W4 ∧ l = [vB y3] ∧ K5 y3 = some r) ?_ ?_
 ·rintro _ _ σ ⟨y3, W4, rfl, l4, rfl, hm⟩
  rw [hK5] at hm
  have a6 := a2.n l4
  have b7 := b1.up l4 rfl
  refine Cw.cond (b := y3) rfl (fun hc8 => ?_) (fun hc8 => ?_)
  ·replace hm := bt hm hc8
   refine Cw.seq (Cw.region (Lw.g (vI 0) rfl (Lw.nil ?_)))
   cases hm
   exact Cw.ret (ret1 rfl (Res.mk a6 ⟨rfl, b7⟩))
  ·replace hm := bf hm hc8
   refine Cw.skip (Cw.seq (Cw.region (Lw.m (ptr (bx g0_)) rfl (Lw.r rfl (R.nc rfl) (Lw.fa rfl (Lw.r rfl (R.ld (v := vI (w64 (x0.p + 1))) rfl rfl (b7.cell rfl)) (Lw.sub rfl (Lw.g (vI (w64 ((w64 (x0.p + 1)) - 1))) rfl (Lw.nil (Cw.seq (Cw.seq (Cw.region ?_))))))))))))
   have s9 := h0_0.ul a6
   refine Lw.m (vI (w64 ((w64 (x0.p + 1)) - 1))) rfl (Lw.m (ptr (bx g0_)) rfl (Lw.r rfl (R.nc rfl) (Lw.fa rfl (Lw.r rfl (R.ld (v := v0_0_) rfl rfl (b7.cell rfl)) (Lw.ln x0.b s9 rfl (Lw.lt rfl (Lw.nil (Cw.cond (b := decide ((w64 ((w64 (x0.p + 1)) - 1) : Int) < ((x0.b.length : Int) : Int))) rfl (fun hc10 => ?_) (fun hc10 => ?_)))))))))
   ·replace hm := bt hm hc10
    refine Cw.seq (Cw.region (Lw.m (ptr (bx g0_)) rfl (Lw.r rfl (R.nc rfl) (Lw.fa rfl (Lw.r rfl (R.ld (v := v0_0_) rfl rfl (b7.cell rfl)) (Lw.m (vI (w64 ((w64 (x0.p + 1)) - 1))) rfl ?_))))))
    obtain ⟨u11, e12, hm⟩ := ob hm
    refine Lw.r rfl (R.ix (α := Byte) s9 e12 rfl rfl rfl) (Lw.r rfl (R.ld rfl rfl (s9.at_ e12).byte) (Lw.r rfl (R.cvI rfl rfl) (Lw.m (vI x1) rfl ?_)))
    obtain ⟨_, e13, hm⟩ := ob hm
    refine Lw.r rfl (R.rem rfl rfl (nz e13)) (Lw.g (vI (Int.tmod (w64 (UInt8.toNat u11 : Int)) x1)) rfl (Lw.nil ?_))
    cases hm
    exact Cw.ret (ret1 rfl (Res.mk a6 ⟨rfl, b7⟩))
   ·replace hm := bf hm hc10
    refine Cw.skip (Cw.seq (Cw.draw [] [(0, 0), (1, 0), (2, 0), (3, 1), (4, 0), (5, 0), (6, 0), (7, 0), (8, 1), (9, 0), (10, 0), (11, 0), (12, 1), (13, 0), (14, 0), (15, 0), (16, 0), (17, 0), (18, 1), (19, 0), (20, 0), (21, 0), (22, 0), (23, 0), (24, 0), (25, 1), (26, 0), (27, 0), (28, 0), (29, 1), (30, 0), (31, 0), (32, 0), (33, 0), (34, 0), (35, 0), (36, 0), (37, 0), (38, 0), (39, 0), (40, 1), (41, 0), (42, 0), (43, 0), (44, 0), (45, 0)] mixed (by kernel_rfl) fun W14 l14 => ?_))
    have a15 := a6.n l14
    have b16 := b7.up l14 rfl
    have s17 := h0_0.ul a15
    refine Mw.p rfl rfl (fun _ => R.mv (v := ptr (bx g0_)) rfl) (Mw.p rfl rfl (fun _ => R.nc rfl) (Mw.p rfl rfl (fun _ => R.fa rfl) (Mw.q rfl rfl (fun _ c => R.ld (v := v0_0_) rfl rfl (b16.clc rfl rfl c)) (Mw.p rfl rfl (fun _ => R.mv (v := vI (w64 ((w64 (x0.p + 1)) - 1))) rfl) (Mw.p rfl rfl (fun _ => R.mv (v := ptr (bx g0_)) rfl) (Mw.p rfl rfl (fun _ => R.nc rfl) (Mw.p rfl rfl (fun _ => R.fa rfl) (Mw.q rfl rfl (fun _ c => R.ld (v := v0_0_) rfl rfl (b16.clc rfl rfl c)) (Mw.p rfl rfl (fun _ => lenR (xs := x0.b) s17 rfl) ?_)))))))))
    obtain ⟨_, e18, hm⟩ := ob hm
    refine Mw.p rfl rfl (fun _ => R.rem rfl rfl (nz e18)) ?_
    obtain ⟨u19, e20, hm⟩ := ob hm
    refine Mw.p rfl rfl (fun _ => R.ix (α := Byte) s17 e20 rfl rfl rfl) (Mw.q rfl rfl (fun _ c => R.ld rfl rfl (cl_cell (s17.at_ e20).1 rfl (s17.at_ e20).byte c)) (Mw.p rfl rfl (fun _ => R.cvI rfl rfl) (Mw.p rfl rfl (fun _ => R.mul rfl rfl) (Mw.p rfl rfl (fun _ => R.mv (v := ptr (bx g0_)) rfl) (Mw.p rfl rfl (fun _ => R.nc rfl) (Mw.p rfl rfl (fun _ => R.fa rfl) (Mw.q rfl rfl (fun _ c => R.ld (v := v0_0_) rfl rfl (b16.clc rfl rfl c)) (Mw.p rfl rfl (fun _ => R.mv (v := vI (w64 ((w64 (x0.p + 1)) - 1))) rfl) (Mw.p rfl rfl (fun _ => R.mul rfl rfl) (Mw.p rfl rfl (fun _ => R.add rfl rfl) (Mw.p rfl rfl (fun _ => R.mv (v := ptr (bx g0_)) rfl) (Mw.p rfl rfl (fun _ => R.nc rfl) (Mw.p rfl rfl (fun _ => R.fa rfl) (Mw.q rfl rfl (fun _ c => R.ld (v := v0_0_) rfl rfl (b16.clc rfl rfl c)) (Mw.p rfl rfl (fun _ => lenR (xs := x0.b) s17 rfl) ?_)))))))))))))))
    obtain ⟨_, e21, hm⟩ := ob hm
    refine Mw.p rfl rfl (fun _ => R.rem rfl rfl (nz e21)) ?_
    obtain ⟨u22, e23, hm⟩ := ob hm
    refine Mw.p rfl rfl (fun _ => R.ix (α := Byte) s17 e23 rfl rfl rfl) (Mw.q rfl rfl (fun _ c => R.ld rfl rfl (cl_cell (s17.at_ e23).1 rfl (s17.at_ e23).byte c)) (Mw.p rfl rfl (fun _ => R.cvI rfl rfl) (Mw.p rfl rfl (fun _ => R.mul rfl rfl) (Mw.p rfl rfl (fun _ => R.add rfl rfl) (Mw.p rfl rfl (fun _ => R.mv (v := vI (w64 ((w64 (x0.p + 1)) - 1))) rfl) (Mw.p rfl rfl (fun _ => R.mul rfl rfl) (Mw.p rfl rfl (fun _ => R.add rfl rfl) (Mw.p rfl rfl (fun _ => R.mv (v := vI (w64 ((w64 (x0.p + 1)) - 1))) rfl) (Mw.p rfl rfl (fun _ => R.mv (v := ptr (bx g0_)) rfl) (Mw.p rfl rfl (fun _ => R.nc rfl) (Mw.p rfl rfl (fun _ => R.fa rfl) (Mw.q rfl rfl (fun _ c => R.ld (v := v0_0_) rfl rfl (b16.clc rfl rfl c)) (Mw.p rfl rfl (fun _ => lenR (xs := x0.b) s17 rfl) ?_)))))))))))))
    obtain ⟨_, e24, hm⟩ := ob hm
    refine Mw.p rfl rfl (fun _ => R.quo rfl rfl (nz e24)) (Mw.p rfl rfl (fun _ => R.mul rfl rfl) (Mw.p rfl rfl (fun _ => R.add rfl rfl) (Mw.p rfl rfl (fun _ => R.as (v := vI (w64 ((w64 ((w64 ((w64 ((w64 (UInt8.toNat u19 : Int)) * 131)) + (w64 ((w64 (UInt8.toNat u22 : Int)) * 1117)))) + (w64 ((w64 ((w64 (x0.p + 1)) - 1)) * 29)))) + (w64 ((w64 (Int.tdiv (w64 ((w64 (x0.p + 1)) - 1)) (x0.b.length : Int))) * 53))))) rfl) (Mw.nil (Cw.seq (Cw.region ?_))))))
    refine Lw.m (vI (w64 ((w64 ((w64 ((w64 ((w64 (UInt8.toNat u19 : Int)) * 131)) + (w64 ((w64 (UInt8.toNat u22 : Int)) * 1117)))) + (w64 ((w64 ((w64 (x0.p + 1)) - 1)) * 29)))) + (w64 ((w64 (Int.tdiv (w64 ((w64 (x0.p + 1)) - 1)) (x0.b.length : Int))) * 53))))) rfl (Lw.m (vI (w64 ((w64 ((w64 ((w64 ((w64 (UInt8.toNat u19 : Int)) * 131)) + (w64 ((w64 (UInt8.toNat u22 : Int)) * 1117)))) + (w64 ((w64 ((w64 (x0.p + 1)) - 1)) * 29)))) + (w64 ((w64 (Int.tdiv (w64 ((w64 (x0.p + 1)) - 1)) (x0.b.length : Int))) * 53))))) rfl (Lw.r rfl (R.quo rfl rfl (by decide)) (Lw.r rfl (R.xor rfl rfl) (Lw.g (vI (xor64 (w64 ((w64 ((w64 ((w64 ((w64 (UInt8.toNat u19 : Int)) * 131)) + (w64 ((w64 (UInt8.toNat u22 : Int)) * 1117)))) + (w64 ((w64 ((w64 (x0.p + 1)) - 1)) * 29)))) + (w64 ((w64 (Int.tdiv (w64 ((w64 (x0.p + 1)) - 1)) (x0.b.length : Int))) * 53)))) (w64 (Int.tdiv (w64 ((w64 ((w64 ((w64 ((w64 (UInt8.toNat u19 : Int)) * 131)) + (w64 ((w64 (UInt8.toNat u22 : Int)) * 1117)))) + (w64 ((w64 ((w64 (x0.p + 1)) - 1)) * 29)))) + (w64 ((w64 (Int.tdiv (w64 ((w64 (x0.p + 1)) - 1)) (x0.b.length : Int))) * 53)))) 64)))) rfl (Lw.nil (Cw.seq (Cw.region ?_)))))))
    refine Lw.m (vI (xor64 (w64 ((w64 ((w64 ((w64 ((w64 (UInt8.toNat u19 : Int)) * 131)) + (w64 ((w64 (UInt8.toNat u22 : Int)) * 1117)))) + (w64 ((w64 ((w64 (x0.p + 1)) - 1)) * 29)))) + (w64 ((w64 (Int.tdiv (w64 ((w64 (x0.p + 1)) - 1)) (x0.b.length : Int))) * 53)))) (w64 (Int.tdiv (w64 ((w64 ((w64 ((w64 ((w64 (UInt8.toNat u19 : Int)) * 131)) + (w64 ((w64 (UInt8.toNat u22 : Int)) * 1117)))) + (w64 ((w64 ((w64 (x0.p + 1)) - 1)) * 29)))) + (w64 ((w64 (Int.tdiv (w64 ((w64 (x0.p + 1)) - 1)) (x0.b.length : Int))) * 53)))) 64)))) rfl (Lw.m (vI x1) rfl ?_)
    obtain ⟨_, e25, hm⟩ := ob hm
    refine Lw.r rfl (R.rem rfl rfl (nz e25)) (Lw.g (vI (Int.tmod (xor64 (w64 ((w64 ((w64 ((w64 ((w64 (UInt8.toNat u19 : Int)) * 131)) + (w64 ((w64 (UInt8.toNat u22 : Int)) * 1117)))) + (w64 ((w64 ((w64 (x0.p + 1)) - 1)) * 29)))) + (w64 ((w64 (Int.tdiv (w64 ((w64 (x0.p + 1)) - 1)) (x0.b.length : Int))) * 53)))) (w64 (Int.tdiv (w64 ((w64 ((w64 ((w64 ((w64 (UInt8.toNat u19 : Int)) * 131)) + (w64 ((w64 (UInt8.toNat u22 : Int)) * 1117)))) + (w64 ((w64 ((w64 (x0.p + 1)) - 1)) * 29)))) + (w64 ((w64 (Int.tdiv (w64 ((w64 (x0.p + 1)) - 1)) (x0.b.length : Int))) * 53)))) 64))) x1)) rfl (Lw.nil ?_))
    cases hm
    exact Cw.ret (ret1 rfl (Res.mk a15 ⟨rfl, b16⟩))
 ·refine Cw.region (Lw.m (vI x1) rfl (Lw.lt rfl (Lw.m (vB (decide ((x1 : Int) < (1 : Int)))) rfl (bsplit (decide ((x1 : Int) < (1 : Int))) (fun hc26 => ?_) (fun hc26 => ?_)))))
  ·replace hm := bt hm hc26
   refine Lw.pass' hc26 rfl rfl rfl rfl rfl rfl rfl (Lw.pass' hc26 rfl rfl rfl rfl rfl rfl rfl (Lw.pass' hc26 rfl rfl rfl rfl rfl rfl rfl (Lw.pass' hc26 rfl rfl rfl rfl rfl rfl rfl (Lw.pass' hc26 rfl rfl rfl rfl rfl rfl rfl (Lw.pass' hc26 rfl rfl rfl rfl rfl rfl rfl (Lw.p hc26 (vB true) rfl (Lw.nil (⟨?_, ⟨true, W1, rfl, Le.refl _ _, rfl, hm⟩⟩))))))))
   iterate 10 (refine Agree.up rfl ?_)
   exact Agree.refl _
  ·replace hm := bf hm hc26
   refine Lw.want' hc26 rfl rfl rfl rfl (Lw.m (ptr (bx g0_)) rfl (Lw.want' hc26 rfl rfl rfl rfl (Lw.r rfl (R.nc rfl) (Lw.want' hc26 rfl rfl rfl rfl (Lw.fa rfl (Lw.want' hc26 rfl rfl rfl rfl (Lw.r rfl (R.ld (v := v0_0_) rfl rfl (b1.cell rfl)) (Lw.want' hc26 rfl rfl rfl rfl (Lw.ln x0.b (h0_0.ul a2) rfl (Lw.want' hc26 rfl rfl rfl rfl (Lw.eq rfl (Lw.p hc26 (vB (((x0.b.length : Int) : Int) == (0 : Int))) rfl (Lw.nil (⟨?_, ⟨(((x0.b.length : Int) : Int) == (0 : Int)), W1, rfl, Le.refl _ _, rfl, hm⟩⟩))))))))))))))
   iterate 10 (refine Agree.up rfl ?_)
   exact Agree.refl _

theorem p79 {W : CW} {K : List Nat} {x0 : Vm.l30Rd} {g0_ : Nat} {v0_0_ : Value} {x1 : Int} {c0 : Nat} {r : Int × Int} (hB0 : Bx W c0 g0_ [v0_0_, vI x0.p]) (h0_0 : Rd W K [v0_0_] x0.b) (hJ : okJ K [c0] = true) (hm : Vm.spec_l30Rd_pick x0 x1 = some r) : CallR Try.prog 79 [ptr (bx g0_), vI x1].toArray W.w (Res W [c0] fun W' v => v = vI r.1 ∧ Bx W' c0 g0_ [v0_0_, vI r.2]) :=
 CallR.adJ (J := [c0]) (fun c => bif Nat.beq c 0 then 0 else bif Nat.beq c 2 then c0 else 0) (c79 (V := W.view K [c0]) (hB0.viewJ 0 hJ) (h0_0.view _) hm) fun _ _ ⟨e, f0⟩ => ⟨e, Bx.backJ 0 f0 rfl⟩

theorem c80 {V : CW} {x0 : Vm.l30Rd} {g0_ : Nat} {v0_0_ : Value} {r : (List Str) × Int} (hB0 : Bx V 2 g0_ [v0_0_, vI x0.p]) (h0_0 : Rd V [0] [v0_0_] x0.b) (hm : Vm.spec_l30Short x0 = some r) : CallR Try.prog 80 [ptr (bx g0_)].toArray V.w (Res V LL fun Wf v => ∃ (u0 : Value), v = u0 ∧ OwS Wf [31] [] [u0] r.1 ∧ Bx Wf 2 g0_ [v0_0_, vI r.2]) := by
 unfold Vm.spec_l30Short at hm
 obtain ⟨W0, hW0⟩ : ∃ W, W = V := ⟨V, rfl⟩
 subst hW0
 refine CallR.of Try.func80 rfl rfl rfl rfl (Cw.seq (Cw.region (Lw.g (.slice none 0 0) rfl (Lw.nil (Cw.seq (Cw.region (Lw.t rfl (T.bsS (α := Str) (xs := [([97] : Str)]) 3 [] (W := W0) [vS ([97] : Str)] (Each.cons ((rdS _)) Each.nil) rfl) ?_)))))))
 rintro v1 _ ⟨W1, rfl, l1, o1⟩
 have a2 := l1.o
 have b3 := hB0.up l1 rfl
 refine Lw.t rfl (T.bsS (α := Str) (xs := [([98] : Str)]) 4 [] (W := W1) [vS ([98] : Str)] (Each.cons ((rdS _)) Each.nil) rfl) ?_
 rintro v4 _ ⟨W4, rfl, l4, o4⟩
 have a5 := a2.n l4
 refine Lw.t rfl (T.bsS (α := Str) (xs := [([99] : Str), ([100] : Str)]) 5 [] (W := W4) [vS ([99] : Str), vS ([100] : Str)] (Each.cons ((rdS _)) (Each.cons ((rdS _)) Each.nil)) rfl) ?_
 rintro v8 _ ⟨W8, rfl, l8, o8⟩
 have a9 := a5.n l8
 have o10 := (o1.up l4 rfl).up l8 rfl
 refine Lw.t rfl (T.bsO (α := List Str) (J := [3, 4, 5]) (xs := [([] : List Str), ([([97] : Str)] : List Str), ([([98] : Str)] : List Str), ([([99] : Str), ([100] : Str)] : List Str)]) 6 [.slice none 0 0, v1, v4, v8] (bsL [[.slice none 0 0], [v1], [v4], [v8]] (mapc rfl (mapc o10.oc (mapc (o4.up l8 rfl).oc (mapc o8.oc mapn)))) (OwL.cons (x := ([] : List Str)) (owsN []) (OwL.cons (x := ([([97] : Str)] : List Str)) o10.s (OwL.cons (x := ([([98] : Str)] : List Str)) (o4.up l8 rfl).s (OwL.cons (x := ([([99] : Str), ([100] : Str)] : List Str)) o8.s OwL.nil))))) rfl) ?_
 rintro v13 _ ⟨W13, rfl, l13, o13⟩
 have a14 := a9.t l13 rfl
 refine Lw.m (ptr (bx g0_)) rfl ?_
 obtain ⟨z17, e18, hm⟩ := ob hm
 refine Lw.t rfl (T.call rfl (p79 (K := [0])  (c0 := 2) (x0 := x0) (((b3.up l4 rfl).up l8 rfl).up l13 rfl) (h0_0.ul a14) rfl e18)) ?_
 rintro _ _ ⟨W19, rfl, l19, ⟨rfl, f19_0⟩⟩
 have a20 := a14.t l19 rfl
 have o21 := o13.up l19 rfl
 obtain ⟨u22, e23, hm⟩ := ob hm
 refine Lw.r rfl (R.ix (α := List Str) o21.rd e23 rfl rfl rfl) ?_
 obtain ⟨v24, c25, r26⟩ := (o21.rd.at_ e23).cell rfl
 refine Lw.r rfl (R.ld rfl rfl c25) (Lw.g v24 rfl (Lw.nil ?_))
 obtain ⟨W27, ew27, l27, o27, gb27⟩ := Ow.lend (α := List Str) (β := List Str) (j := 7) (jf := 0) o21 e23 (by rw [h_add0]; exact c25) rfl
 rw [← ew27]
 have a28 := a20.t l27 rfl
 obtain ⟨W30, ew30, l30, o30⟩ := o27.dyeO 31
 have a31 := a28.t l30 rfl
 cases hm
 rw [← ew30]
 exact Cw.ret (ret1 rfl (Res.mk a31 ⟨v24, rfl, o30.s, ((f19_0.up l27 rfl).up l30 rfl)⟩))

theorem p80 {W : CW} {K : List Nat} {x0 : Vm.l30Rd} {g0_ : Nat} {v0_0_ : Value} {k0 : Nat} {c0 : Nat} {r : (List Str) × Int} (hB0 : Bx W c0 g0_ [v0_0_, vI x0.p]) (h0_0 : Rd W K [v0_0_] x0.b) (hJ : okJ K [c0] = true) (hm : Vm.spec_l30Short x0 = some r) : CallR Try.prog 80 [ptr (bx g0_)].toArray W.w (Res W [c0] fun W' v => ∃ (u0 : Value), v = u0 ∧ Ow W' k0 [] [u0] r.1 ∧ Bx W' c0 g0_ [v0_0_, vI r.2]) :=
 CallR.adJ (J := [c0]) (fun c => bif Nat.beq c 0 then 0 else bif Nat.beq c 2 then c0 else bif Nat.beq c 31 then k0 else 0) (c80 (V := W.view K [c0]) (hB0.viewJ 0 hJ) (h0_0.view _) hm) fun _ _ ⟨u0, e, f0, f1⟩ => ⟨u0, e, f0.one1.backN rfl, Bx.backJ 0 f1 rfl⟩

theorem c60 {V : CW} {x0 : Vm.l30Rd} {g0_ : Nat} {v0_0_ : Value} {r : Vm.Memo × Int} (hB0 : Bx V 2 g0_ [v0_0_, vI x0.p]) (h0_0 : Rd V [0] [v0_0_] x0.b) (hm : Vm.spec_l30Memo x0 = some r) : CallR Try.prog 60 [ptr (bx g0_)].toArray V.w (Res V LL fun Wf v => ∃ (u0_0 : Value) (u0_1 : Value) (u0_2 : Value) (u0_3 : Value), v = .agg [u0_0, u0_1, u0_2, u0_3].toArray ∧ OwS Wf [31] [] [u0_0] r.1.Old ∧ OwS Wf [32] [] [u0_1] r.1.One ∧ OwS Wf [33] [] [u0_2] r.1.Two ∧ OwS Wf [34] [] [u0_3] r.1.Done ∧ Bx Wf 2 g0_ [v0_0_, vI r.2]) := by
 unfold Vm.spec_l30Memo at hm
 obtain ⟨W0, hW0⟩ : ∃ W, W = V := ⟨V, rfl⟩
 subst hW0
 refine CallR.of Try.func60 rfl rfl rfl rfl (Cw.seq (Cw.region (Lw.t rfl (T.alloc 3 (cs := [.slice none 0 0, .slice none 0 0, .slice none 0 0, .slice none 0 0]) rfl) ?_)))
 rintro _ _ ⟨g1, W1, rfl, rfl, l1, b1⟩
 have a2 := l1.o
 have b3 := hB0.up l1 rfl
 refine Lw.nil (Cw.seq (Cw.region (Lw.m (ptr (bx g0_)) rfl ?_)))
 obtain ⟨z5, e6, hm⟩ := ob hm
 refine Lw.t rfl (T.call rfl (p80 (K := [0]) (k0 := 4) (c0 := 2) (x0 := x0) b3 (h0_0.ul a2) rfl e6)) ?_
 rintro v0_7 _ ⟨W7, rfl, l7, ⟨_, rfl, f7_0, f7_1⟩⟩
 have a8 := a2.t l7 rfl
 refine Lw.g v0_7 rfl (Lw.nil (Cw.seq (Cw.region (Lw.m v0_7 rfl (Lw.m (ptr (bx g0_)) rfl ?_)))))
 obtain ⟨z11, e12, hm⟩ := ob hm
 refine Lw.t rfl (T.call rfl (p80 (K := [0]) (k0 := 5) (c0 := 2) (x0 := (Vm.l30Rd.mk x0.b z5.2)) f7_1 (h0_0.ul a8) rfl e12)) ?_
 rintro v0_13 _ ⟨W13, rfl, l13, ⟨_, rfl, f13_0, f13_1⟩⟩
 have a14 := a8.t l13 rfl
 refine Lw.m (ptr (bx g0_)) rfl ?_
 obtain ⟨z18, e19, hm⟩ := ob hm
 refine Lw.t rfl (T.call rfl (p80 (K := [0]) (k0 := 6) (c0 := 2) (x0 := (Vm.l30Rd.mk x0.b z11.2)) f13_1 (h0_0.ul a14) rfl e19)) ?_
 rintro v0_20 _ ⟨W20, rfl, l20, ⟨_, rfl, f20_0, f20_1⟩⟩
 have a21 := a14.t l20 rfl
 refine Lw.m (ptr (bx g0_)) rfl ?_
 obtain ⟨z26, e27, hm⟩ := ob hm
 refine Lw.t rfl (T.call rfl (p80 (K := [0]) (k0 := 7) (c0 := 2) (x0 := (Vm.l30Rd.mk x0.b z18.2)) f20_1 (h0_0.ul a21) rfl e27)) ?_
 rintro v0_28 _ ⟨W28, rfl, l28, ⟨_, rfl, f28_0, f28_1⟩⟩
 have a29 := a21.t l28 rfl
 have o30 := ((f7_0.up l13 rfl).up l20 rfl).up l28 rfl
 have o31 := (f13_0.up l20 rfl).up l28 rfl
 have o32 := f20_0.up l28 rfl
 refine Lw.r rfl (R.bd (zs := [.slice none 0 0, .slice none 0 0, .slice none 0 0, .slice none 0 0]) (cs := [v0_7, v0_13, v0_20, v0_28]) [(0, v0_7), (1, v0_13), (2, v0_20), (3, v0_28)] rfl rfl rfl (bp_cons o30.oc rfl (bp_cons o31.oc rfl (bp_cons o32.oc rfl (bp_cons f28_0.oc rfl bp_nil))))) (Lw.u (T.sta (vs := [v0_7, v0_13, v0_20, v0_28]) ((((b1.up l7 rfl).up l13 rfl).up l20 rfl).up l28 rfl) rfl rfl (oc_cons o30.oc (oc_cons o31.oc (oc_cons o32.oc (oc_cons f28_0.oc oc_nil)))) rfl rfl) ?_)
 rintro _ _ ⟨W34, rfl, l34, b34⟩
 have a35 := a29.t l34 rfl
 refine Lw.nil ?_
 obtain ⟨W41, ew41, l41, o41⟩ := (o30.up l34 rfl).dyeO 31
 have a42 := a35.t l41 rfl
 obtain ⟨W48, ew48, l48, o48⟩ := ((o31.up l34 rfl).up l41 rfl).dyeO 32
 have a49 := a42.t l48 rfl
 obtain ⟨W55, ew55, l55, o55⟩ := (((o32.up l34 rfl).up l41 rfl).up l48 rfl).dyeO 33
 have a56 := a49.t l55 rfl
 obtain ⟨W62, ew62, l62, o62⟩ := ((((f28_0.up l34 rfl).up l41 rfl).up l48 rfl).up l55 rfl).dyeO 34
 have a63 := a56.t l62 rfl
 cases hm
 rw [← ew62.trans (ew55.trans (ew48.trans (ew41)))]
 exact Cw.ret (retA1 rfl ((((b34.up l41 rfl).up l48 rfl).up l55 rfl).up l62 rfl) (Res.mk a63 ⟨v0_7, v0_13, v0_20, v0_28, rfl, (((o41.up l48 rfl).up l55 rfl).up l62 rfl).s, ((o48.up l55 rfl).up l62 rfl).s, (o55.up l62 rfl).s, o62.s, (((((f28_1.up l34 rfl).up l41 rfl).up l48 rfl).up l55 rfl).up l62 rfl)⟩))

theorem p60 {W : CW} {K : List Nat} {x0 : Vm.l30Rd} {g0_ : Nat} {v0_0_ : Value} {k0 : Nat} {k1 : Nat} {k2 : Nat} {k3 : Nat} {c0 : Nat} {r : Vm.Memo × Int} (hB0 : Bx W c0 g0_ [v0_0_, vI x0.p]) (h0_0 : Rd W K [v0_0_] x0.b) (hJ : okJ K [c0] = true) (hm : Vm.spec_l30Memo x0 = some r) : CallR Try.prog 60 [ptr (bx g0_)].toArray W.w (Res W [c0] fun W' v => ∃ (u0_0 : Value) (u0_1 : Value) (u0_2 : Value) (u0_3 : Value), v = .agg [u0_0, u0_1, u0_2, u0_3].toArray ∧ Ow W' k0 [] [u0_0] r.1.Old ∧ Ow W' k1 [] [u0_1] r.1.One ∧ Ow W' k2 [] [u0_2] r.1.Two ∧ Ow W' k3 [] [u0_3] r.1.Done ∧ Bx W' c0 g0_ [v0_0_, vI r.2]) :=
 CallR.adJ (J := [c0]) (fun c => bif Nat.beq c 0 then 0 else bif Nat.beq c 2 then c0 else bif Nat.beq c 31 then k0 else bif Nat.beq c 32 then k1 else bif Nat.beq c 33 then k2 else bif Nat.beq c 34 then k3 else 0) (c60 (V := W.view K [c0]) (hB0.viewJ 0 hJ) (h0_0.view _) hm) fun _ _ ⟨u0_0, u0_1, u0_2, u0_3, e, f0, f1, f2, f3, f4⟩ => ⟨u0_0, u0_1, u0_2, u0_3, e, f0.one1.backN rfl, f1.one1.backN rfl, f2.one1.backN rfl, f3.one1.backN rfl, Bx.backJ 0 f4 rfl⟩

theorem c64 {V : CW} {x0 : Vm.Memo} {v0_0_ : Value} {v0_1_ : Value} {v0_2_ : Value} {v0_3_ : Value} {r : Vm.Memo} (h0 : Rd V [0] [v0_0_, v0_1_, v0_2_, v0_3_] x0) (hm : Vm.spec_l18Copy x0 = some r) : CallR Try.prog 64 [.agg [v0_0_, v0_1_, v0_2_, v0_3_].toArray].toArray V.w (Res V LL fun Wf v => ∃ (u0_0 : Value) (u0_1 : Value) (u0_2 : Value) (u0_3 : Value), v = .agg [u0_0, u0_1, u0_2, u0_3].toArray ∧ OwS Wf [31] [] [u0_0] r.Old ∧ OwS Wf [32] [] [u0_1] r.One ∧ OwS Wf [33] [] [u0_2] r.Two ∧ OwS Wf [34] [] [u0_3] r.Done) := by
 unfold Vm.spec_l18Copy at hm
 obtain ⟨w0_0, w0_1, w0_2, w0_3, he0, h0_0, h0_1, h0_2, h0_3⟩ := Memo.split h0
 simp only [List.cons.injEq, and_true, true_and] at he0
 obtain ⟨rfl, rfl, rfl, rfl⟩ := he0
 obtain ⟨W0, hW0⟩ : ∃ W, W = V := ⟨V, rfl⟩
 subst hW0
 refine CallR.of Try.func64 rfl rfl rfl rfl (Cw.seq (Cw.region (Lw.t rfl (T.box 2 (v := .agg [v0_0_, v0_1_, v0_2_, v0_3_].toArray) (cs := [v0_0_, v0_1_, v0_2_, v0_3_]) rfl rfl) ?_)))
 rintro _ _ ⟨g1, W1, rfl, rfl, l1, b1⟩
 have a2 := l1.o
 refine Lw.t rfl (T.alloc 3 (cs := [.slice none 0 0, .slice none 0 0, .slice none 0 0, .slice none 0 0]) rfl) ?_
 rintro _ _ ⟨g3, W3, rfl, rfl, l3, b3⟩
 have a4 := a2.n l3
 refine Lw.nil (Cw.seq ?_)
 obtain ⟨q14, e15, hm⟩ := ob hm
 obtain ⟨q26, e27, hm⟩ := ob hm
 obtain ⟨q40, e41, hm⟩ := ob hm
 obtain ⟨q56, e57, hm⟩ := ob hm
 refine Cw.par [[], [], [1], [0, 1, 2], [], [], [5], [0, 1, 2, 3, 4, 5, 6], [], [], [9], [0, 1, 2, 3, 4, 5, 6, 7, 8, 9, 10], [], [], [13], [0, 1, 2, 3, 4, 5, 6, 7, 8, 9, 10, 11, 12, 13, 14], [0, 1, 2, 3, 4, 5, 6, 7, 8, 9, 10, 11, 12, 13, 14, 15], [0, 1, 2, 3, 4, 5, 6, 7, 8, 9, 10, 11, 12, 13, 14, 15, 16]] [[], [], [1], [0, 2], [], [], [5], [4, 6], [], [], [9], [8, 10], [], [], [13], [12, 14], [3, 7, 11, 15], [3, 7, 11, 15, 16, 18]] [[], [], [], [4], [], [], [], [5], [], [], [], [6], [], [], [], [7], [], [3]] [[0], [1], [2], [3], [4], [5], [6], [7], [8], [9], [10], [11], [12], [13], [14], [15], [3, 7, 11, 15, 16], [3, 7, 11, 15], []] [[4], [], [], [4], [5], [], [], [5], [6], [], [], [6], [7], [], [], [7], [], [3], [3]] [1, 2, 3, 5, 6, 7, 9, 10, 11, 13, 14, 15, 16, 17] [3, 4, 5, 6, 7] [fun vs W => Ow W 4 [] [(vs 0)] ([] : List Str), fun vs W => (vs 1) = ptr ((bx g1).add 0), fun vs W => (vs 2) = v0_0_, fun vs W => Ow W 4 [] [(vs 3)] q14, fun vs W => Ow W 5 [] [(vs 4)] ([] : List Str), fun vs W => (vs 5) = ptr ((bx g1).add 1), fun vs W => (vs 6) = v0_1_, fun vs W => Ow W 5 [] [(vs 7)] q26, fun vs W => Ow W 6 [] [(vs 8)] ([] : List Str), fun vs W => (vs 9) = ptr ((bx g1).add 2), fun vs W => (vs 10) = v0_2_, fun vs W => Ow W 6 [] [(vs 11)] q40, fun vs W => Ow W 7 [] [(vs 12)] ([] : List Str), fun vs W => (vs 13) = ptr ((bx g1).add 3), fun vs W => (vs 14) = v0_3_, fun vs W => Ow W 7 [] [(vs 15)] q56, fun vs W => (vs 16) = .agg [(vs 3), (vs 7), (vs 11), (vs 15)].toArray, fun vs W => Bx W 3 g3 [(vs 3), (vs 7), (vs 11), (vs 15)]] [fun _ W => Bx W 3 g3 [.slice none 0 0, .slice none 0 0, .slice none 0 0, .slice none 0 0]] mixed (by kernel_rfl) rfl (AllF.cons (fun _ _ l => b3.up l rfl) AllF.nil) ?_
 intro W73 l73
 have a74 := a4.n l73
 have b75 := (b1.up l3 rfl).up l73 rfl
 refine ⟨(Steps.cons ?_ (Steps.cons ?_ (Steps.cons ?_ (Steps.cons ?_ (Steps.cons ?_ (Steps.cons ?_ (Steps.cons ?_ (Steps.cons ?_ (Steps.cons ?_ (Steps.cons ?_ (Steps.cons ?_ (Steps.cons ?_ (Steps.cons ?_ (Steps.cons ?_ (Steps.cons ?_ (Steps.cons ?_ (Steps.cons ?_ (Steps.cons ?_ Steps.nil)))))))))))))))))), (Sups.cons (fun vs vs' W W' _ hv l hd h => by (show Ow W' 4 [] [(vs' 0)] ([] : List Str)); rw [hv 0 (anyb rfl)]; exact h.upv l (disj_mem hd (c := 4) rfl)) (Sups.cons (fun vs vs' W W' _ hv l hd h => by (show (vs' 1) = ptr ((bx g1).add 0)); rw [hv 1 (anyb rfl)]; exact h) (Sups.cons (fun vs vs' W W' _ hv l hd h => by (show (vs' 2) = v0_0_); rw [hv 2 (anyb rfl)]; exact h) (Sups.cons (fun vs vs' W W' _ hv l hd h => by (show Ow W' 4 [] [(vs' 3)] q14); rw [hv 3 (anyb rfl)]; exact h.upv l (disj_mem hd (c := 4) rfl)) (Sups.cons (fun vs vs' W W' _ hv l hd h => by (show Ow W' 5 [] [(vs' 4)] ([] : List Str)); rw [hv 4 (anyb rfl)]; exact h.upv l (disj_mem hd (c := 5) rfl)) (Sups.cons (fun vs vs' W W' _ hv l hd h => by (show (vs' 5) = ptr ((bx g1).add 1)); rw [hv 5 (anyb rfl)]; exact h) (Sups.cons (fun vs vs' W W' _ hv l hd h => by (show (vs' 6) = v0_1_); rw [hv 6 (anyb rfl)]; exact h) (Sups.cons (fun vs vs' W W' _ hv l hd h => by (show Ow W' 5 [] [(vs' 7)] q26); rw [hv 7 (anyb rfl)]; exact h.upv l (disj_mem hd (c := 5) rfl)) (Sups.cons (fun vs vs' W W' _ hv l hd h => by (show Ow W' 6 [] [(vs' 8)] ([] : List Str)); rw [hv 8 (anyb rfl)]; exact h.upv l (disj_mem hd (c := 6) rfl)) (Sups.cons (fun vs vs' W W' _ hv l hd h => by (show (vs' 9) = ptr ((bx g1).add 2)); rw [hv 9 (anyb rfl)]; exact h) (Sups.cons (fun vs vs' W W' _ hv l hd h => by (show (vs' 10) = v0_2_); rw [hv 10 (anyb rfl)]; exact h) (Sups.cons (fun vs vs' W W' _ hv l hd h => by (show Ow W' 6 [] [(vs' 11)] q40); rw [hv 11 (anyb rfl)]; exact h.upv l (disj_mem hd (c := 6) rfl)) (Sups.cons (fun vs vs' W W' _ hv l hd h => by (show Ow W' 7 [] [(vs' 12)] ([] : List Str)); rw [hv 12 (anyb rfl)]; exact h.upv l (disj_mem hd (c := 7) rfl)) (Sups.cons (fun vs vs' W W' _ hv l hd h => by (show (vs' 13) = ptr ((bx g1).add 3)); rw [hv 13 (anyb rfl)]; exact h) (Sups.cons (fun vs vs' W W' _ hv l hd h => by (show (vs' 14) = v0_3_); rw [hv 14 (anyb rfl)]; exact h) (Sups.cons (fun vs vs' W W' _ hv l hd h => by (show Ow W' 7 [] [(vs' 15)] q56); rw [hv 15 (anyb rfl)]; exact h.upv l (disj_mem hd (c := 7) rfl)) (Sups.cons (fun vs vs' W W' _ hv l hd h => by (show (vs' 16) = .agg [(vs' 3), (vs' 7), (vs' 11), (vs' 15)].toArray); rw [hv 3 (anyb rfl), hv 7 (anyb rfl), hv 11 (anyb rfl), hv 15 (anyb rfl), hv 16 (anyb rfl)]; exact h) (Sups.cons (fun vs vs' W W' _ hv l hd h => by (show Bx W' 3 g3 [(vs' 3), (vs' 7), (vs' 11), (vs' 15)]); rw [hv 3 (anyb rfl), hv 7 (anyb rfl), hv 11 (anyb rfl), hv 15 (anyb rfl)]; exact h.up l (disj_mem hd (c := 3) rfl)) (Sups.cons (fun _ _ _ _ _ _ l hd h => h.up l (disj_mem hd (c := 3) rfl)) Sups.nil))))))))))))))))))), ?_⟩
 ·intro vs W lW hN
  obtain ⟨W77, hW77⟩ : ∃ X, X = W := ⟨W, rfl⟩
  subst hW77
  refine Tr.mono (T.lit0 (α := Str) 4 []) ?_
  rintro v80 _ ⟨W80, rfl, l80, o80⟩
  exact ⟨W80, rfl, l80, (show Ow W80 4 [] [v80] ([] : List Str) from o80)⟩
 ·intro vs W lW hN
  obtain ⟨W83, hW83⟩ : ∃ X, X = W := ⟨W, rfl⟩
  subst hW83
  refine Tr.mono (Run.tr (R.fa rfl)) ?_
  rintro _ _ ⟨hu, rfl⟩
  obtain rfl := hu.symm
  exact ⟨W83, rfl, Le.refl _ _, (show (ptr ((bx g1).add 0) : Value) = ptr ((bx g1).add 0) from rfl)⟩
 ·intro vs W lW hN
  obtain ⟨W86, hW86⟩ : ∃ X, X = W := ⟨W, rfl⟩
  subst hW86
  have e1_ : vs 1 = ptr ((bx g1).add 0) := (hN 1 (anyb rfl))
  obtain ⟨vs, rfl⟩ := up_eq e1_
  refine Tr.mono (Run.tr (R.ld (v := v0_0_) rfl rfl ((b75.up lW rfl).cell rfl))) ?_
  rintro _ _ ⟨hu, rfl⟩
  obtain rfl := hu.symm
  exact ⟨W86, rfl, Le.refl _ _, (show (v0_0_ : Value) = v0_0_ from rfl)⟩
 ·intro vs W lW hN
  obtain ⟨W89, hW89⟩ : ∃ X, X = W := ⟨W, rfl⟩
  subst hW89
  have a90 := a74.t lW rfl
  obtain ⟨pv0, e0_⟩ : ∃ v, vs 0 = v := ⟨_, rfl⟩
  obtain ⟨vs, rfl⟩ := up_eq e0_
  have o92 : Ow W89 4 [] [pv0] ([] : List Str) := (hN 0 (anyb rfl))
  have e2_ : vs 2 = v0_0_ := (hN 2 (anyb rfl))
  obtain ⟨vs, rfl⟩ := up_eq e2_
  refine Tr.mono (T.appP (α := Str) o92 (h0_0.ul a90) rfl rfl e15) ?_
  rintro v93 _ ⟨W93, rfl, l93, o93⟩
  exact ⟨W93, rfl, l93, (show Ow W93 4 [] [v93] q14 from o93)⟩
 ·intro vs W lW hN
  obtain ⟨W97, hW97⟩ : ∃ X, X = W := ⟨W, rfl⟩
  subst hW97
  refine Tr.mono (T.lit0 (α := Str) 5 []) ?_
  rintro v100 _ ⟨W100, rfl, l100, o100⟩
  exact ⟨W100, rfl, l100, (show Ow W100 5 [] [v100] ([] : List Str) from o100)⟩
 ·intro vs W lW hN
  obtain ⟨W103, hW103⟩ : ∃ X, X = W := ⟨W, rfl⟩
  subst hW103
  refine Tr.mono (Run.tr (R.fa rfl)) ?_
  rintro _ _ ⟨hu, rfl⟩
  obtain rfl := hu.symm
  exact ⟨W103, rfl, Le.refl _ _, (show (ptr ((bx g1).add 1) : Value) = ptr ((bx g1).add 1) from rfl)⟩
 ·intro vs W lW hN
  obtain ⟨W106, hW106⟩ : ∃ X, X = W := ⟨W, rfl⟩
  subst hW106
  have e5_ : vs 5 = ptr ((bx g1).add 1) := (hN 5 (anyb rfl))
  obtain ⟨vs, rfl⟩ := up_eq e5_
  refine Tr.mono (Run.tr (R.ld (v := v0_1_) rfl rfl ((b75.up lW rfl).cell rfl))) ?_
  rintro _ _ ⟨hu, rfl⟩
  obtain rfl := hu.symm
  exact ⟨W106, rfl, Le.refl _ _, (show (v0_1_ : Value) = v0_1_ from rfl)⟩
 ·intro vs W lW hN
  obtain ⟨W109, hW109⟩ : ∃ X, X = W := ⟨W, rfl⟩
  subst hW109
  have a110 := a74.t lW rfl
  obtain ⟨pv4, e4_⟩ : ∃ v, vs 4 = v := ⟨_, rfl⟩
  obtain ⟨vs, rfl⟩ := up_eq e4_
  have o112 : Ow W109 5 [] [pv4] ([] : List Str) := (hN 4 (anyb rfl))
  have e6_ : vs 6 = v0_1_ := (hN 6 (anyb rfl))
  obtain ⟨vs, rfl⟩ := up_eq e6_
  refine Tr.mono (T.appP (α := Str) o112 (h0_1.ul a110) rfl rfl e27) ?_
  rintro v113 _ ⟨W113, rfl, l113, o113⟩
  exact ⟨W113, rfl, l113, (show Ow W113 5 [] [v113] q26 from o113)⟩
 ·intro vs W lW hN
  obtain ⟨W117, hW117⟩ : ∃ X, X = W := ⟨W, rfl⟩
  subst hW117
  refine Tr.mono (T.lit0 (α := Str) 6 []) ?_
  rintro v120 _ ⟨W120, rfl, l120, o120⟩
  exact ⟨W120, rfl, l120, (show Ow W120 6 [] [v120] ([] : List Str) from o120)⟩
 ·intro vs W lW hN
  obtain ⟨W123, hW123⟩ : ∃ X, X = W := ⟨W, rfl⟩
  subst hW123
  refine Tr.mono (Run.tr (R.fa rfl)) ?_
  rintro _ _ ⟨hu, rfl⟩
  obtain rfl := hu.symm
  exact ⟨W123, rfl, Le.refl _ _, (show (ptr ((bx g1).add 2) : Value) = ptr ((bx g1).add 2) from rfl)⟩
 ·intro vs W lW hN
  obtain ⟨W126, hW126⟩ : ∃ X, X = W := ⟨W, rfl⟩
  subst hW126
  have e9_ : vs 9 = ptr ((bx g1).add 2) := (hN 9 (anyb rfl))
  obtain ⟨vs, rfl⟩ := up_eq e9_
  refine Tr.mono (Run.tr (R.ld (v := v0_2_) rfl rfl ((b75.up lW rfl).cell rfl))) ?_
  rintro _ _ ⟨hu, rfl⟩
  obtain rfl := hu.symm
  exact ⟨W126, rfl, Le.refl _ _, (show (v0_2_ : Value) = v0_2_ from rfl)⟩
 ·intro vs W lW hN
  obtain ⟨W129, hW129⟩ : ∃ X, X = W := ⟨W, rfl⟩
  subst hW129
  have a130 := a74.t lW rfl
  obtain ⟨pv8, e8_⟩ : ∃ v, vs 8 = v := ⟨_, rfl⟩
  obtain ⟨vs, rfl⟩ := up_eq e8_
  have o132 : Ow W129 6 [] [pv8] ([] : List Str) := (hN 8 (anyb rfl))
  have e10_ : vs 10 = v0_2_ := (hN 10 (anyb rfl))
  obtain ⟨vs, rfl⟩ := up_eq e10_
  refine Tr.mono (T.appP (α := Str) o132 (h0_2.ul a130) rfl rfl e41) ?_
  rintro v133 _ ⟨W133, rfl, l133, o133⟩
  exact ⟨W133, rfl, l133, (show Ow W133 6 [] [v133] q40 from o133)⟩
 ·intro vs W lW hN
  obtain ⟨W137, hW137⟩ : ∃ X, X = W := ⟨W, rfl⟩
  subst hW137
  refine Tr.mono (T.lit0 (α := Str) 7 []) ?_
  rintro v140 _ ⟨W140, rfl, l140, o140⟩
  exact ⟨W140, rfl, l140, (show Ow W140 7 [] [v140] ([] : List Str) from o140)⟩
 ·intro vs W lW hN
  obtain ⟨W143, hW143⟩ : ∃ X, X = W := ⟨W, rfl⟩
  subst hW143
  refine Tr.mono (Run.tr (R.fa rfl)) ?_
  rintro _ _ ⟨hu, rfl⟩
  obtain rfl := hu.symm
  exact ⟨W143, rfl, Le.refl _ _, (show (ptr ((bx g1).add 3) : Value) = ptr ((bx g1).add 3) from rfl)⟩
 ·intro vs W lW hN
  obtain ⟨W146, hW146⟩ : ∃ X, X = W := ⟨W, rfl⟩
  subst hW146
  have e13_ : vs 13 = ptr ((bx g1).add 3) := (hN 13 (anyb rfl))
  obtain ⟨vs, rfl⟩ := up_eq e13_
  refine Tr.mono (Run.tr (R.ld (v := v0_3_) rfl rfl ((b75.up lW rfl).cell rfl))) ?_
  rintro _ _ ⟨hu, rfl⟩
  obtain rfl := hu.symm
  exact ⟨W146, rfl, Le.refl _ _, (show (v0_3_ : Value) = v0_3_ from rfl)⟩
 ·intro vs W lW hN
  obtain ⟨W149, hW149⟩ : ∃ X, X = W := ⟨W, rfl⟩
  subst hW149
  have a150 := a74.t lW rfl
  obtain ⟨pv12, e12_⟩ : ∃ v, vs 12 = v := ⟨_, rfl⟩
  obtain ⟨vs, rfl⟩ := up_eq e12_
  have o152 : Ow W149 7 [] [pv12] ([] : List Str) := (hN 12 (anyb rfl))
  have e14_ : vs 14 = v0_3_ := (hN 14 (anyb rfl))
  obtain ⟨vs, rfl⟩ := up_eq e14_
  refine Tr.mono (T.appP (α := Str) o152 (h0_3.ul a150) rfl rfl e57) ?_
  rintro v153 _ ⟨W153, rfl, l153, o153⟩
  exact ⟨W153, rfl, l153, (show Ow W153 7 [] [v153] q56 from o153)⟩
 ·intro vs W lW hN
  obtain ⟨W157, hW157⟩ : ∃ X, X = W := ⟨W, rfl⟩
  subst hW157
  obtain ⟨pv3, e3_⟩ : ∃ v, vs 3 = v := ⟨_, rfl⟩
  obtain ⟨vs, rfl⟩ := up_eq e3_
  have o160 : Ow W157 4 [] [pv3] q14 := (hN 3 (anyb rfl))
  obtain ⟨pv7, e7_⟩ : ∃ v, vs 7 = v := ⟨_, rfl⟩
  obtain ⟨vs, rfl⟩ := up_eq e7_
  have o161 : Ow W157 5 [] [pv7] q26 := (hN 7 (anyb rfl))
  obtain ⟨pv11, e11_⟩ : ∃ v, vs 11 = v := ⟨_, rfl⟩
  obtain ⟨vs, rfl⟩ := up_eq e11_
  have o162 : Ow W157 6 [] [pv11] q40 := (hN 11 (anyb rfl))
  obtain ⟨pv15, e15_⟩ : ∃ v, vs 15 = v := ⟨_, rfl⟩
  obtain ⟨vs, rfl⟩ := up_eq e15_
  have o163 : Ow W157 7 [] [pv15] q56 := (hN 15 (anyb rfl))
  refine Tr.mono (Run.tr (R.bd (zs := [.slice none 0 0, .slice none 0 0, .slice none 0 0, .slice none 0 0]) (cs := [pv3, pv7, pv11, pv15]) [(0, pv3), (1, pv7), (2, pv11), (3, pv15)] rfl rfl rfl (bp_cons o160.oc rfl (bp_cons o161.oc rfl (bp_cons o162.oc rfl (bp_cons o163.oc rfl bp_nil)))))) ?_
  rintro _ _ ⟨hu, rfl⟩
  obtain rfl := hu.symm
  exact ⟨W157, rfl, Le.refl _ _, (show (.agg [pv3, pv7, pv11, pv15].toArray : Value) = .agg [pv3, pv7, pv11, pv15].toArray from rfl)⟩
 ·intro vs W lW hN
  obtain ⟨W164, hW164⟩ : ∃ X, X = W := ⟨W, rfl⟩
  subst hW164
  obtain ⟨pv3, e3_⟩ : ∃ v, vs 3 = v := ⟨_, rfl⟩
  obtain ⟨vs, rfl⟩ := up_eq e3_
  have o167 : Ow W164 4 [] [pv3] q14 := (hN 3 (anyb rfl))
  obtain ⟨pv7, e7_⟩ : ∃ v, vs 7 = v := ⟨_, rfl⟩
  obtain ⟨vs, rfl⟩ := up_eq e7_
  have o168 : Ow W164 5 [] [pv7] q26 := (hN 7 (anyb rfl))
  obtain ⟨pv11, e11_⟩ : ∃ v, vs 11 = v := ⟨_, rfl⟩
  obtain ⟨vs, rfl⟩ := up_eq e11_
  have o169 : Ow W164 6 [] [pv11] q40 := (hN 11 (anyb rfl))
  obtain ⟨pv15, e15_⟩ : ∃ v, vs 15 = v := ⟨_, rfl⟩
  obtain ⟨vs, rfl⟩ := up_eq e15_
  have o170 : Ow W164 7 [] [pv15] q56 := (hN 15 (anyb rfl))
  have e16_ : vs 16 = .agg [pv3, pv7, pv11, pv15].toArray := (hN 16 (anyb rfl))
  obtain ⟨vs, rfl⟩ := up_eq e16_
  have o171 : Bx W164 3 g3 [.slice none 0 0, .slice none 0 0, .slice none 0 0, .slice none 0 0] := hN 18 (anyb rfl)
  refine Tr.mono (T.sta (vs := [pv3, pv7, pv11, pv15]) o171 rfl rfl (oc_cons o167.oc (oc_cons o168.oc (oc_cons o169.oc (oc_cons o170.oc oc_nil)))) rfl rfl) ?_
  rintro _ _ ⟨W172, rfl, l172, b172⟩
  exact ⟨W172, rfl, l172, (show Bx W172 3 g3 [pv3, pv7, pv11, pv15] from b172)⟩
 ·intro vs W lW hN
  obtain ⟨W179, hW179⟩ : ∃ X, X = W := ⟨W, rfl⟩
  subst hW179
  have a180 := a74.t lW rfl
  obtain ⟨l179, hl179⟩ : ∃ x, x = lW := ⟨lW, rfl⟩
  have e1_ : vs 1 = ptr ((bx g1).add 0) := (hN 1 (anyb rfl))
  obtain ⟨vs, rfl⟩ := up_eq e1_
  have e2_ : vs 2 = v0_0_ := (hN 2 (anyb rfl))
  obtain ⟨vs, rfl⟩ := up_eq e2_
  obtain ⟨pv3, e3_⟩ : ∃ v, vs 3 = v := ⟨_, rfl⟩
  obtain ⟨vs, rfl⟩ := up_eq e3_
  have o182 : Ow W179 4 [] [pv3] q14 := (hN 3 (anyb rfl))
  have e5_ : vs 5 = ptr ((bx g1).add 1) := (hN 5 (anyb rfl))
  obtain ⟨vs, rfl⟩ := up_eq e5_
  have e6_ : vs 6 = v0_1_ := (hN 6 (anyb rfl))
  obtain ⟨vs, rfl⟩ := up_eq e6_
  obtain ⟨pv7, e7_⟩ : ∃ v, vs 7 = v := ⟨_, rfl⟩
  obtain ⟨vs, rfl⟩ := up_eq e7_
  have o183 : Ow W179 5 [] [pv7] q26 := (hN 7 (anyb rfl))
  have e9_ : vs 9 = ptr ((bx g1).add 2) := (hN 9 (anyb rfl))
  obtain ⟨vs, rfl⟩ := up_eq e9_
  have e10_ : vs 10 = v0_2_ := (hN 10 (anyb rfl))
  obtain ⟨vs, rfl⟩ := up_eq e10_
  obtain ⟨pv11, e11_⟩ : ∃ v, vs 11 = v := ⟨_, rfl⟩
  obtain ⟨vs, rfl⟩ := up_eq e11_
  have o184 : Ow W179 6 [] [pv11] q40 := (hN 11 (anyb rfl))
  have e13_ : vs 13 = ptr ((bx g1).add 3) := (hN 13 (anyb rfl))
  obtain ⟨vs, rfl⟩ := up_eq e13_
  have e14_ : vs 14 = v0_3_ := (hN 14 (anyb rfl))
  obtain ⟨vs, rfl⟩ := up_eq e14_
  obtain ⟨pv15, e15_⟩ : ∃ v, vs 15 = v := ⟨_, rfl⟩
  obtain ⟨vs, rfl⟩ := up_eq e15_
  have o185 : Ow W179 7 [] [pv15] q56 := (hN 15 (anyb rfl))
  have e16_ : vs 16 = .agg [pv3, pv7, pv11, pv15].toArray := (hN 16 (anyb rfl))
  obtain ⟨vs, rfl⟩ := up_eq e16_
  have o186 : Bx W179 3 g3 [pv3, pv7, pv11, pv15] := (hN 17 (anyb rfl))
  obtain ⟨W187, ew187, l187, o187⟩ := o182.dyeO 31
  have a188 := a180.t l187 rfl
  obtain ⟨W194, ew194, l194, o194⟩ := (o183.up l187 rfl).dyeO 32
  have a195 := a188.t l194 rfl
  obtain ⟨W201, ew201, l201, o201⟩ := ((o184.up l187 rfl).up l194 rfl).dyeO 33
  have a202 := a195.t l201 rfl
  obtain ⟨W208, ew208, l208, o208⟩ := (((o185.up l187 rfl).up l194 rfl).up l201 rfl).dyeO 34
  have a209 := a202.t l208 rfl
  cases hm
  rw [← ew208.trans (ew201.trans (ew194.trans (ew187)))]
  exact Cw.ret (retA1 rfl ((((o186.up l187 rfl).up l194 rfl).up l201 rfl).up l208 rfl) (Res.mk a209 ⟨pv3, pv7, pv11, pv15, rfl, (((o187.up l194 rfl).up l201 rfl).up l208 rfl).s, ((o194.up l201 rfl).up l208 rfl).s, (o201.up l208 rfl).s, o208.s⟩))

theorem p64 {W : CW} {K : List Nat} {x0 : Vm.Memo} {v0_0_ : Value} {v0_1_ : Value} {v0_2_ : Value} {v0_3_ : Value} {k0 : Nat} {k1 : Nat} {k2 : Nat} {k3 : Nat} {r : Vm.Memo} (h0 : Rd W K [v0_0_, v0_1_, v0_2_, v0_3_] x0) (hm : Vm.spec_l18Copy x0 = some r) : CallR Try.prog 64 [.agg [v0_0_, v0_1_, v0_2_, v0_3_].toArray].toArray W.w (Res W [] fun W' v => ∃ (u0_0 : Value) (u0_1 : Value) (u0_2 : Value) (u0_3 : Value), v = .agg [u0_0, u0_1, u0_2, u0_3].toArray ∧ Ow W' k0 [] [u0_0] r.Old ∧ Ow W' k1 [] [u0_1] r.One ∧ Ow W' k2 [] [u0_2] r.Two ∧ Ow W' k3 [] [u0_3] r.Done) :=
 CallR.adJ (J := []) (fun c => bif Nat.beq c 0 then 0 else bif Nat.beq c 31 then k0 else bif Nat.beq c 32 then k1 else bif Nat.beq c 33 then k2 else bif Nat.beq c 34 then k3 else 0) (c64 (V := W.view K []) (h0.view _) hm) fun _ _ ⟨u0_0, u0_1, u0_2, u0_3, e, f0, f1, f2, f3⟩ => ⟨u0_0, u0_1, u0_2, u0_3, e, f0.one1.backN rfl, f1.one1.backN rfl, f2.one1.backN rfl, f3.one1.backN rfl⟩

theorem c65 {V : CW} {x0 : List Vm.Memo} {v0_ : Value} {r : (List Vm.Memo)} (h0 : Rd V [0] [v0_] x0) (hm : Vm.spec_l18All x0 = some r) : CallR Try.prog 65 [v0_].toArray V.w (Res V LL fun Wf v => ∃ (u0 : Value), v = u0 ∧ OwS Wf LL [] [u0] r) := by
 unfold Vm.spec_l18All at hm
 obtain ⟨W0, hW0⟩ : ∃ W, W = V := ⟨V, rfl⟩
 subst hW0
 refine CallR.of Try.func65 rfl rfl rfl rfl (Cw.seq (Cw.region (Lw.g (.slice none 0 0) rfl (Lw.nil (Cw.seq (Cw.region (Lw.t rfl (T.lit0 (α := Memo) 2 []) ?_)))))))
 rintro v1 _ ⟨W1, rfl, l1, o1⟩
 have a2 := l1.o
 refine Lw.g v1 rfl (Lw.nil (Cw.seq (Cw.seq (Cw.region (Lw.g (vI 0) rfl (Lw.nil (Cw.block ?_)))))))
 obtain ⟨K8, hK8, hm⟩ := jn_e hm
 refine Cw.loop 6 19 [3, 4] (fun m l w => ∃ (y3 : List Vm.Memo) (y6 : Int) (v4 : Value) (W7 : CW), W7.w = w ∧ Le [2, 3, 4, 5, 6] W1 W7 ∧ l = [v4, vI y6] ∧ Ow W7 2 [] [v4] y3 ∧ Vm.spec_l18All_l1 x0 K8 m y3 y6 = some r) (((x0.length : Int) - 0).toNat + 1) ⟨([] : List Memo), 0, v1, W1, rfl, Le.refl _ _, rfl, o1, hm⟩ ?_
 rintro m9 _ _ σ ⟨y3, y6, v4, W7, rfl, l7, rfl, o5, hm⟩
 obtain _ | m9 := m9
 ·cases hm
 unfold Vm.spec_l18All_l1 at hm
 have a10 := a2.t l7 rfl
 refine Cw.seq (Cw.seq (Cw.region (Lw.m (vI y6) rfl (Lw.m v0_ rfl (Lw.ln x0 (h0.ul a10) rfl (Lw.lt rfl (Lw.nil (Cw.cond (b := decide ((y6 : Int) < ((x0.length : Int) : Int))) rfl (fun hc12 => ?_) (fun hc12 => ?_)))))))))
 ·replace hm := bt hm hc12
  refine Cw.skip (Cw.seq (Cw.block (Cw.region (Lw.m v4 rfl (Lw.m v0_ rfl (Lw.m (vI y6) rfl ?_))))))
  obtain ⟨u13, e14, hm⟩ := ob hm
  refine Lw.r rfl (R.ix (α := Memo) (h0.ul a10) e14 rfl rfl rfl) ?_
  obtain ⟨x15, c16, _, r17⟩ := ((h0.ul a10).at_ e14).cells
  obtain ⟨v18, v20, v22, v24, rfl, r19, r21, r23, r25⟩ := Memo.split r17
  refine Lw.r rfl (R.lda c16 rfl rfl) ?_
  obtain ⟨z26, e27, hm⟩ := ob hm
  refine Lw.t rfl (T.call rfl (p64 (K := [0]) (k0 := 3) (k1 := 4) (k2 := 5) (k3 := 6) (Memo.rd (K := [0]) u13.Old u13.One u13.Two u13.Done r19 r21 r23 r25) e27)) ?_
  rintro _ _ ⟨W28, rfl, l28, ⟨v0_0_28, v0_1_28, v0_2_28, v0_3_28, rfl, f28_0, f28_1, f28_2, f28_3⟩⟩
  refine Lw.t rfl (T.bs 7 [.agg [v0_0_28, v0_1_28, v0_2_28, v0_3_28].toArray] (cs := [v0_0_28, v0_1_28, v0_2_28, v0_3_28]) rfl rfl (bsA rfl)) ?_
  rintro _ _ ⟨g31, W31, rfl, rfl, l31, b31⟩
  obtain ⟨q38, e39, hm⟩ := ob hm
  refine Lw.t rfl (T.app1 (α := Memo) (J := [3, 4, 5, 6]) (K' := []) ((o5.up l28 rfl).up l31 rfl) b31 (Memo.own z26.Old z26.One z26.Two z26.Done (f28_0.up l31 rfl).s (f28_1.up l31 rfl).s (f28_2.up l31 rfl).s (f28_3.up l31 rfl).s) rfl rfl e39) ?_
  rintro v40 _ ⟨W40, rfl, l40, o40⟩
  refine Lw.g v40 rfl (Lw.nil (Cw.region (Lw.m (vI y6) rfl (Lw.add rfl (Lw.g (vI (w64 (y6 + 1))) rfl (Lw.nil (⟨?_, m9, Nat.lt_succ_self m9, ⟨q38, w64 (y6 + 1), v40, W40, rfl, (l7.trans ((l28.sub rfl).trans ((l31.sub rfl).trans l40))), rfl, o40, hm⟩⟩)))))))
  iterate 16 (refine Agree.up rfl ?_)
  iterate 2 (refine Agree.up rfl ?_)
  exact Agree.base
 ·replace hm := bf hm hc12
  refine Cw.exit ?_
  rw [hK8] at hm
  refine Cw.seq (Cw.region (Lw.m v4 rfl (Lw.g v4 rfl (Lw.nil ?_))))
  cases hm
  exact Cw.ret (ret1 rfl (Res.mk a10 ⟨v4, rfl, o5.s.sub rfl rfl⟩))

theorem p65 {W : CW} {K : List Nat} {x0 : List Vm.Memo} {v0_ : Value} {k0 : Nat} {r : (List Vm.Memo)} (h0 : Rd W K [v0_] x0) (hm : Vm.spec_l18All x0 = some r) : CallR Try.prog 65 [v0_].toArray W.w (Res W [] fun W' v => ∃ (u0 : Value), v = u0 ∧ Ow W' k0 [] [u0] r) :=
 (c65 (V := W.view K []) (h0.view _) hm).ad (fk k0) fun _ _ ⟨u0, e, f0⟩ => ⟨u0, e, f0.back (fk_LL _)⟩

theorem c19 {V : CW} {x0 : List Vm.Memo} {v0_ : Value} {x1 : Vm.Memo} {v1_0_ : Value} {v1_1_ : Value} {v1_2_ : Value} {v1_3_ : Value} {r : (List Vm.Memo) × Bool} (h0 : Rd V [0] [v0_] x0) (h1 : Rd V [0] [v1_0_, v1_1_, v1_2_, v1_3_] x1) (hm : Vm.spec_MemoPut x0 x1 = some r) : CallR Try.prog 19 [v0_, .agg [v1_0_, v1_1_, v1_2_, v1_3_].toArray].toArray V.w (Res V LL fun Wf v => ∃ (u0 : Value), v = .tuple [u0, vB r.2].toArray ∧ OwS Wf LL [] [u0] r.1) := by
 unfold Vm.spec_MemoPut at hm
 obtain ⟨w1_0, w1_1, w1_2, w1_3, he1, h1_0, h1_1, h1_2, h1_3⟩ := Memo.split h1
 simp only [List.cons.injEq, and_true, true_and] at he1
 obtain ⟨rfl, rfl, rfl, rfl⟩ := he1
 obtain ⟨W0, hW0⟩ : ∃ W, W = V := ⟨V, rfl⟩
 subst hW0
 refine CallR.of Try.func19 rfl rfl rfl rfl (Cw.seq (Cw.region (Lw.t rfl (T.box 2 (v := .agg [v1_0_, v1_1_, v1_2_, v1_3_].toArray) (cs := [v1_0_, v1_1_, v1_2_, v1_3_]) rfl rfl) ?_)))
 rintro _ _ ⟨g1, W1, rfl, rfl, l1, b1⟩
 have a2 := l1.o
 refine Lw.g (.slice none 0 0) rfl (Lw.g (vB false) rfl (Lw.nil (Cw.seq (Cw.seq (Cw.region (Lw.m v0_ rfl ?_))))))
 obtain ⟨z4, e5, hm⟩ := ob hm
 refine Lw.t rfl (T.call rfl (p53 (K := [0])  (h0.ul a2) e5)) ?_
 rintro _ _ ⟨W6, rfl, l6, rfl⟩
 have a7 := a2.n l6
 refine Lw.r rfl (R.not rfl) (Lw.nil (Cw.cond (b := (!z4)) rfl (fun hc9 => ?_) (fun hc9 => ?_)))
 ·replace hm := bt hm hc9
  refine Cw.seq (Cw.region (Lw.g (.slice none 0 0) rfl (Lw.g (vB false) rfl (Lw.nil ?_))))
  cases hm
  exact Cw.ret (ret2 rfl rfl (Res.mk a7 ⟨.slice none 0 0, rfl, (owsN []).sub rfl rfl⟩))
 ·replace hm := bf hm hc9
  refine Cw.skip (Cw.seq (Cw.region (Lw.t rfl (T.lit0 (α := Memo) 3 []) ?_)))
  rintro v10 _ ⟨W10, rfl, l10, o10⟩
  have a11 := a7.n l10
  refine Lw.g v10 rfl (Lw.nil (Cw.seq (Cw.seq (Cw.region (Lw.g (vI 0) rfl (Lw.nil (Cw.block ?_)))))))
  obtain ⟨K18, hK18, hm⟩ := jn_e hm
  refine Cw.loop 12 37 [6, 7] (fun m l w => ∃ (y13 : List Vm.Memo) (y16 : Int) (v14 : Value) (W17 : CW), W17.w = w ∧ Le [3, 4, 5, 6, 7] W10 W17 ∧ l = [v14, vI y16] ∧ Ow W17 3 [] [v14] y13 ∧ Vm.spec_MemoPut_l1 x0 x1 K18 m y13 y16 = some r) (((x0.length : Int) - 0).toNat + 1) ⟨([] : List Memo), 0, v10, W10, rfl, Le.refl _ _, rfl, o10, hm⟩ ?_
  rintro m19 _ _ σ ⟨y13, y16, v14, W17, rfl, l17, rfl, o15, hm⟩
  obtain _ | m19 := m19
  ·cases hm
  unfold Vm.spec_MemoPut_l1 at hm
  have a20 := a11.t l17 rfl
  have b21 := ((b1.up l6 rfl).up l10 rfl).up l17 rfl
  refine Cw.seq (Cw.seq (Cw.region (Lw.m (vI y16) rfl (Lw.m v0_ rfl (Lw.ln x0 (h0.ul a20) rfl (Lw.lt rfl (Lw.nil (Cw.cond (b := decide ((y16 : Int) < ((x0.length : Int) : Int))) rfl (fun hc23 => ?_) (fun hc23 => ?_)))))))))
  ·replace hm := bt hm hc23
   refine Cw.skip ?_
   obtain ⟨K28, hK28, hm⟩ := jn_e hm
   refine Cw.join 18 37 [6] (fun l w => ∃ (y24 : List Vm.Memo) (v25 : Value) (W27 : CW), W27.w = w ∧ Le [3, 4, 5, 6, 7] W17 W27 ∧ l = [v25] ∧ Ow W27 3 [] [v25] y24 ∧ K28 y24 = some r) ?_ ?_
   ·rintro _ _ σ ⟨y24, v25, W27, rfl, l27, rfl, o26, hm⟩
    rw [hK28] at hm
    refine Cw.region (Lw.m (vI y16) rfl (Lw.add rfl (Lw.g (vI (w64 (y16 + 1))) rfl (Lw.nil (⟨?_, m19, Nat.lt_succ_self m19, ⟨y24, w64 (y16 + 1), v25, W27, rfl, (l17.trans l27), rfl, o26, hm⟩⟩)))))
    iterate 3 (refine Agree.up rfl ?_)
    iterate 1 (refine Agree.up rfl ?_)
    refine Agree.ov0 rfl ?_
    iterate 4 (refine Agree.up rfl ?_)
    iterate 2 (refine Agree.up rfl ?_)
    exact Agree.base
   ·refine Cw.block (Cw.seq (Cw.draw [] [(0, 0), (1, 0), (2, 0), (3, 1), (4, 0), (5, 1), (6, 0), (7, 1), (8, 0), (9, 1), (10, 3), (11, 0)] mixed (by kernel_rfl) fun W31 l31 => ?_))
    have a32 := a20.n l31
    have b34 := b21.up l31 rfl
    refine Mw.p rfl rfl (fun _ => R.mv (v := v0_) rfl) (Mw.p rfl rfl (fun _ => R.mv (v := vI y16) rfl) ?_)
    obtain ⟨u35, e36, hm⟩ := ob hm
    refine Mw.p rfl rfl (fun _ => R.ix (α := Memo) (h0.ul a32) e36 rfl rfl rfl) ?_
    obtain ⟨x38, c39, _, r40⟩ := ((h0.ul a32).at_ e36).cells
    obtain ⟨v41, v43, v45, v47, rfl, r42, r44, r46, r48⟩ := Memo.split r40
    refine Mw.q rfl rfl (fun _ c => R.lda (cl_cells ((h0.ul a32).at_ e36).1 rfl c39 c) rfl rfl) (Mw.p rfl rfl (fun _ => R.fa rfl) (Mw.q rfl rfl (fun _ c => R.ld (v := v1_0_) rfl rfl (b34.clc rfl rfl c)) (Mw.p rfl rfl (fun _ => R.fa rfl) (Mw.q rfl rfl (fun _ c => R.ld (v := v1_1_) rfl rfl (b34.clc rfl rfl c)) (Mw.p rfl rfl (fun _ => R.fa rfl) (Mw.q rfl rfl (fun _ c => R.ld (v := v1_2_) rfl rfl (b34.clc rfl rfl c)) ?_))))))
    obtain ⟨z52, e53, hm⟩ := ob hm
    refine Mw.l rfl rfl (T.call rfl (p63 (K := [0])  (Memo.rd (K := [0]) u35.Old u35.One u35.Two u35.Done r42 r44 r46 r48) (h1_0.ul a32) (h1_1.ul a32) (h1_2.ul a32) e53)) ?_
    rintro _ _ ⟨W54, rfl, l54, rfl⟩
    have a55 := a32.n l54
    have o56 := (o15.up l31 rfl).up l54 rfl
    refine Mw.p rfl rfl (fun _ => R.not rfl) (Mw.nil (Cw.cond (b := (!z52)) rfl (fun hc58 => ?_) (fun hc58 => ?_)))
    ·replace hm := bt hm hc58
     refine Cw.region (Lw.m v14 rfl (Lw.m v0_ rfl (Lw.m (vI y16) rfl ?_)))
     obtain ⟨u59, e60, hm⟩ := ob hm
     refine Lw.r rfl (R.ix (α := Memo) (h0.ul a55) e60 rfl rfl rfl) ?_
     obtain ⟨x62, c63, _, r64⟩ := ((h0.ul a55).at_ e60).cells
     obtain ⟨v65, v67, v69, v71, rfl, r66, r68, r70, r72⟩ := Memo.split r64
     refine Lw.r rfl (R.lda c63 rfl rfl) ?_
     obtain ⟨z73, e74, hm⟩ := ob hm
     refine Lw.t rfl (T.call rfl (p64 (K := [0]) (k0 := 4) (k1 := 5) (k2 := 6) (k3 := 7) (Memo.rd (K := [0]) u59.Old u59.One u59.Two u59.Done r66 r68 r70 r72) e74)) ?_
     rintro _ _ ⟨W75, rfl, l75, ⟨v0_0_75, v0_1_75, v0_2_75, v0_3_75, rfl, f75_0, f75_1, f75_2, f75_3⟩⟩
     refine Lw.t rfl (T.bs 8 [.agg [v0_0_75, v0_1_75, v0_2_75, v0_3_75].toArray] (cs := [v0_0_75, v0_1_75, v0_2_75, v0_3_75]) rfl rfl (bsA rfl)) ?_
     rintro _ _ ⟨g79, W79, rfl, rfl, l79, b79⟩
     obtain ⟨q87, e88, hm⟩ := ob hm
     refine Lw.t rfl (T.app1 (α := Memo) (J := [4, 5, 6, 7]) (K' := []) ((o56.up l75 rfl).up l79 rfl) b79 (Memo.own z73.Old z73.One z73.Two z73.Done (f75_0.up l79 rfl).s (f75_1.up l79 rfl).s (f75_2.up l79 rfl).s (f75_3.up l79 rfl).s) rfl rfl e88) ?_
     rintro v89 _ ⟨W89, rfl, l89, o89⟩
     refine Lw.g v89 rfl (Lw.nil (⟨?_, ⟨q87, v89, W89, rfl, ((l31.sub rfl).trans ((l54.sub rfl).trans ((l75.sub rfl).trans ((l79.sub rfl).trans l89)))), rfl, o89, hm⟩⟩))
     iterate 21 (refine Agree.up rfl ?_)
     exact Agree.refl _
    ·replace hm := bf hm hc58
     refine Cw.skip (⟨?_, ⟨y13, v14, W54, rfl, ((l31.sub rfl).trans (l54.sub rfl)), rfl, o56, hm⟩⟩)
     iterate 12 (refine Agree.up rfl ?_)
     exact Agree.refl _
  ·replace hm := bf hm hc23
   refine Cw.exit ?_
   rw [hK18] at hm
   refine Cw.seq (Cw.region (Lw.m v14 rfl (Lw.r rfl (R.lda (cs := [v1_0_, v1_1_, v1_2_, v1_3_]) b21.cells rfl rfl) ?_)))
   obtain ⟨z97, e98, hm⟩ := ob hm
   refine Lw.t rfl (T.call rfl (p64 (K := [0]) (k0 := 9) (k1 := 10) (k2 := 11) (k3 := 12) (Memo.rd (K := [0]) x1.Old x1.One x1.Two x1.Done (h1_0.ul a20) (h1_1.ul a20) (h1_2.ul a20) (h1_3.ul a20)) e98)) ?_
   rintro _ _ ⟨W99, rfl, l99, ⟨v0_0_99, v0_1_99, v0_2_99, v0_3_99, rfl, f99_0, f99_1, f99_2, f99_3⟩⟩
   have a100 := a20.n l99
   refine Lw.t rfl (T.bs 13 [.agg [v0_0_99, v0_1_99, v0_2_99, v0_3_99].toArray] (cs := [v0_0_99, v0_1_99, v0_2_99, v0_3_99]) rfl rfl (bsA rfl)) ?_
   rintro _ _ ⟨g103, W103, rfl, rfl, l103, b103⟩
   have a104 := a100.n l103
   obtain ⟨q111, e112, hm⟩ := ob hm
   refine Lw.t rfl (T.app1 (α := Memo) (J := [9, 10, 11, 12]) (K' := []) ((o15.up l99 rfl).up l103 rfl) b103 (Memo.own z97.Old z97.One z97.Two z97.Done (f99_0.up l103 rfl).s (f99_1.up l103 rfl).s (f99_2.up l103 rfl).s (f99_3.up l103 rfl).s) rfl rfl e112) ?_
   rintro v113 _ ⟨W113, rfl, l113, o113⟩
   have a114 := a104.t l113 rfl
   refine Lw.g v113 rfl (Lw.nil (Cw.seq (Cw.seq (Cw.region (Lw.m v113 rfl ?_)))))
   obtain ⟨z117, e118, hm⟩ := ob hm
   refine Lw.t rfl (T.call rfl (p53 (K := [3])  o113.rd e118)) ?_
   rintro _ _ ⟨W119, rfl, l119, rfl⟩
   have a120 := a114.n l119
   refine Lw.r rfl (R.not rfl) (Lw.nil (Cw.cond (b := (!z117)) rfl (fun hc124 => ?_) (fun hc124 => ?_)))
   ·replace hm := bt hm hc124
    refine Cw.seq (Cw.region (Lw.m v0_ rfl ?_))
    obtain ⟨z126, e127, hm⟩ := ob hm
    refine Lw.t rfl (T.call rfl (p65 (K := [0]) (k0 := 14) (h0.ul a120) e127)) ?_
    rintro v0_128 _ ⟨W128, rfl, l128, ⟨_, rfl, f128_0⟩⟩
    have a129 := a120.n l128
    refine Lw.g v0_128 rfl (Lw.g (vB false) rfl (Lw.nil ?_))
    cases hm
    exact Cw.ret (ret2 rfl rfl (Res.mk a129 ⟨v0_128, rfl, f128_0.s.sub rfl rfl⟩))
   ·replace hm := bf hm hc124
    refine Cw.skip (Cw.seq (Cw.region (Lw.m v113 rfl (Lw.g v113 rfl (Lw.g (vB true) rfl (Lw.nil ?_))))))
    cases hm
    exact Cw.ret (ret2 rfl rfl (Res.mk a120 ⟨v113, rfl, (o113.up l119 rfl).s.sub rfl rfl⟩))

theorem p19 {W : CW} {K : List Nat} {x0 : List Vm.Memo} {v0_ : Value} {x1 : Vm.Memo} {v1_0_ : Value} {v1_1_ : Value} {v1_2_ : Value} {v1_3_ : Value} {k0 : Nat} {r : (List Vm.Memo) × Bool} (h0 : Rd W K [v0_] x0) (h1 : Rd W K [v1_0_, v1_1_, v1_2_, v1_3_] x1) (hm : Vm.spec_MemoPut x0 x1 = some r) : CallR Try.prog 19 [v0_, .agg [v1_0_, v1_1_, v1_2_, v1_3_].toArray].toArray W.w (Res W [] fun W' v => ∃ (u0 : Value), v = .tuple [u0, vB r.2].toArray ∧ Ow W' k0 [] [u0] r.1) :=
 (c19 (V := W.view K []) (h0.view _) (h1.view _) hm).ad (fk k0) fun _ _ ⟨u0, e, f0⟩ => ⟨u0, e, f0.back (fk_LL _)⟩

theorem c59 {V : CW} {x0 : Vm.l30Rd} {g0_ : Nat} {v0_0_ : Value} {r : (List Vm.Memo) × Int} (hB0 : Bx V 2 g0_ [v0_0_, vI x0.p]) (h0_0 : Rd V [0] [v0_0_] x0.b) (hm : Vm.spec_l30Memos x0 = some r) : CallR Try.prog 59 [ptr (bx g0_)].toArray V.w (Res V LL fun Wf v => ∃ (u0 : Value), v = u0 ∧ OwS Wf [31] [] [u0] r.1 ∧ Bx Wf 2 g0_ [v0_0_, vI r.2]) := by
 unfold Vm.spec_l30Memos at hm
 obtain ⟨W0, hW0⟩ : ∃ W, W = V := ⟨V, rfl⟩
 subst hW0
 refine CallR.of Try.func59 rfl rfl rfl rfl (Cw.seq (Cw.region (Lw.g (.slice none 0 0) rfl (Lw.nil (Cw.seq (Cw.region (Lw.t rfl (T.lit0 (α := Memo) 3 []) ?_)))))))
 rintro v1 _ ⟨W1, rfl, l1, o1⟩
 have a2 := l1.o
 have b3 := hB0.up l1 rfl
 refine Lw.g v1 rfl (Lw.nil (Cw.seq (Cw.seq (Cw.region (Lw.m (ptr (bx g0_)) rfl ?_)))))
 obtain ⟨z5, e6, hm⟩ := ob hm
 refine Lw.t rfl (T.call rfl (p79 (K := [0])  (c0 := 2) (x0 := x0) b3 (h0_0.ul a2) rfl e6)) ?_
 rintro _ _ ⟨W7, rfl, l7, ⟨rfl, f7_0⟩⟩
 have a8 := a2.t l7 rfl
 refine Lw.g (vI z5.1) rfl (Lw.nil (Cw.block ?_))
 obtain ⟨K19, hK19, hm⟩ := jn_e hm
 refine Cw.loop 10 22 [3, 4, 5, 6] (fun m l w => ∃ (y10 : List Vm.Memo) (y13 : Int) (y16 : Int) (v11 j14 j15 : Value) (W18 : CW), W18.w = w ∧ Le [2, 8] W7 W18 ∧ l = [v11, vI y13, j14, j15] ∧ Ow W18 3 [] [v11] y10 ∧ Bx W18 2 g0_ [v0_0_, vI y16] ∧ Vm.spec_l30Memos_l1 x0 K19 m y10 y13 y16 = some r) ((z5.1 - 0).toNat + 1) ⟨([] : List Memo), z5.1, z5.2, v1, undef, undef, W7, rfl, Le.refl _ _, rfl, (o1.up l7 rfl), f7_0, hm⟩ ?_
 rintro m20 _ _ σ ⟨y10, y13, y16, v11, j14, j15, W18, rfl, l18, rfl, o12, b17, hm⟩
 obtain _ | m20 := m20
 ·cases hm
 unfold Vm.spec_l30Memos_l1 at hm
 have a21 := a8.t l18 rfl
 refine Cw.seq (Cw.seq (Cw.region (Lw.m (vI y13) rfl (Lw.gt rfl (Lw.nil (Cw.cond (b := decide ((0 : Int) < (y13 : Int))) rfl (fun hc22 => ?_) (fun hc22 => ?_)))))))
 ·replace hm := bt hm hc22
  refine Cw.skip ?_
  obtain ⟨K31, hK31, hm⟩ := jn_e hm
  refine Cw.join 14 22 [3, 5, 6] (fun l w => ∃ (y23 : List Vm.Memo) (y28 : Int) (v24 j26 j27 : Value) (W30 : CW), W30.w = w ∧ Le [2, 8] W18 W30 ∧ l = [v24, j26, j27] ∧ Ow W30 3 [] [v24] y23 ∧ Bx W30 2 g0_ [v0_0_, vI y28] ∧ K31 y23 y28 = some r) ?_ ?_
  ·rintro _ _ σ ⟨y23, y28, v24, j26, j27, W30, rfl, l30, rfl, o25, b29, hm⟩
   rw [hK31] at hm
   refine Cw.region (Lw.m (vI y13) rfl (Lw.sub rfl (Lw.g (vI (w64 (y13 - 1))) rfl (Lw.nil (⟨?_, m20, Nat.lt_succ_self m20, ⟨y23, w64 (y13 - 1), y28, v24, j26, j27, W30, rfl, (l18.trans l30), rfl, o25, b29, hm⟩⟩)))))
   iterate 3 (refine Agree.up rfl ?_)
   iterate 3 (refine Agree.up rfl ?_)
   refine Agree.ov0 rfl ?_
   iterate 2 (refine Agree.up rfl ?_)
   iterate 4 (refine Agree.up rfl ?_)
   exact Agree.base
  ·refine Cw.block (Cw.seq (Cw.region (Lw.m v11 rfl (Lw.m (ptr (bx g0_)) rfl ?_))))
   obtain ⟨z34, e35, hm⟩ := ob hm
   refine Lw.t rfl (T.call rfl (p60 (K := [0]) (k0 := 4) (k1 := 5) (k2 := 6) (k3 := 7) (c0 := 2) (x0 := (Vm.l30Rd.mk x0.b y16)) b17 (h0_0.ul a21) rfl e35)) ?_
   rintro _ _ ⟨W36, rfl, l36, ⟨v0_0_36, v0_1_36, v0_2_36, v0_3_36, rfl, f36_0, f36_1, f36_2, f36_3, f36_4⟩⟩
   obtain ⟨z39, e40, hm⟩ := ob hm
   refine Lw.t rfl (T.call rfl (p19 (K := [3, 4, 5, 6, 7]) (k0 := 8) (x1 := (Vm.Memo.mk z34.1.Old z34.1.One z34.1.Two z34.1.Done)) ((o12.up l36 rfl).rd.sub (M := [3, 4, 5, 6, 7]) rfl) ((Memo.rd (K := [4, 5, 6, 7]) z34.1.Old z34.1.One z34.1.Two z34.1.Done (f36_0.rd.sub (M := [4, 5, 6, 7]) rfl) (f36_1.rd.sub (M := [4, 5, 6, 7]) rfl) (f36_2.rd.sub (M := [4, 5, 6, 7]) rfl) (f36_3.rd.sub (M := [4, 5, 6, 7]) rfl)).sub (M := [3, 4, 5, 6, 7]) rfl) e40)) ?_
   rintro _ _ ⟨W41, rfl, l41, ⟨v0_41, rfl, f41_0⟩⟩
   refine Lw.m (.tuple [v0_41, vB z39.2].toArray) rfl (Lw.r rfl (R.ext (vs := [v0_41, vB z39.2]) (v := v0_41) rfl rfl) (Lw.r rfl (R.ext (vs := [v0_41, vB z39.2]) (v := vB z39.2) rfl rfl) (Lw.g v0_41 rfl (Lw.g (vB z39.2) rfl (Lw.nil (Cw.seq (Cw.region (Lw.m (vB z39.2) rfl (Lw.nil (Cw.cond (b := z39.2) rfl (fun hc49 => ?_) (fun hc49 => ?_)))))))))))
   ·replace hm := bt hm hc49
    refine Cw.region (Lw.m v0_41 rfl (Lw.g v0_41 rfl (Lw.nil ?_)))
    obtain ⟨W50, ew50, l50, o50⟩ := f41_0.dyeO 3
    refine ⟨?_, ⟨z39.1, z34.2, v0_41, v0_41, vB z39.2, W50, ew50, ((l36.sub rfl).trans ((l41.sub rfl).trans (l50.sub rfl))), rfl, o50, ((f36_4.up l41 rfl).up l50 rfl), hm⟩⟩
    iterate 12 (refine Agree.up rfl ?_)
    exact Agree.refl _
   ·replace hm := bf hm hc49
    refine Cw.skip (⟨?_, ⟨y10, z34.2, v11, v0_41, vB z39.2, W41, rfl, ((l36.sub rfl).trans (l41.sub rfl)), rfl, ((o12.up l36 rfl).up l41 rfl), (f36_4.up l41 rfl), hm⟩⟩)
    iterate 10 (refine Agree.up rfl ?_)
    exact Agree.refl _
 ·replace hm := bf hm hc22
  refine Cw.exit ?_
  rw [hK19] at hm
  refine Cw.seq (Cw.seq (Cw.region (Lw.m (ptr (bx g0_)) rfl ?_)))
  obtain ⟨z58, e59, hm⟩ := ob hm
  refine Lw.t rfl (T.call rfl (p79 (K := [0])  (c0 := 2) (x0 := (Vm.l30Rd.mk x0.b y16)) b17 (h0_0.ul a21) rfl e59)) ?_
  rintro _ _ ⟨W60, rfl, l60, ⟨rfl, f60_0⟩⟩
  have a61 := a21.t l60 rfl
  refine Lw.eq rfl (Lw.nil (Cw.cond (b := ((z58.1 : Int) == (0 : Int))) rfl (fun hc63 => ?_) (fun hc63 => ?_)))
  ·replace hm := bt hm hc63
   refine Cw.seq (Cw.region (Lw.m v11 rfl (Lw.m (ptr (bx g0_)) rfl ?_)))
   obtain ⟨z65, e66, hm⟩ := ob hm
   refine Lw.t rfl (T.call rfl (p60 (K := [0]) (k0 := 9) (k1 := 10) (k2 := 11) (k3 := 12) (c0 := 2) (x0 := (Vm.l30Rd.mk x0.b z58.2)) f60_0 (h0_0.ul a61) rfl e66)) ?_
   rintro _ _ ⟨W67, rfl, l67, ⟨v0_0_67, v0_1_67, v0_2_67, v0_3_67, rfl, f67_0, f67_1, f67_2, f67_3, f67_4⟩⟩
   have a68 := a61.t l67 rfl
   refine Lw.t rfl (T.bs 13 [.agg [v0_0_67, v0_1_67, v0_2_67, v0_3_67].toArray] (cs := [v0_0_67, v0_1_67, v0_2_67, v0_3_67]) rfl rfl (bsA rfl)) ?_
   rintro _ _ ⟨g70, W70, rfl, rfl, l70, b70⟩
   have a71 := a68.n l70
   obtain ⟨q78, e79, hm⟩ := ob hm
   refine Lw.t rfl (T.app1 (α := Memo) (J := [9, 10, 11, 12]) (K' := []) (((o12.up l60 rfl).up l67 rfl).up l70 rfl) b70 (Memo.own z65.1.Old z65.1.One z65.1.Two z65.1.Done (f67_0.up l70 rfl).s (f67_1.up l70 rfl).s (f67_2.up l70 rfl).s (f67_3.up l70 rfl).s) rfl rfl e79) ?_
   rintro v80 _ ⟨W80, rfl, l80, o80⟩
   have a81 := a71.t l80 rfl
   refine Lw.g v80 rfl (Lw.nil ?_)
   obtain ⟨W84, ew84, l84, o84⟩ := o80.dyeO 31
   have a85 := a81.t l84 rfl
   cases hm
   rw [← ew84]
   exact Cw.ret (ret1 rfl (Res.mk a85 ⟨v80, rfl, o84.s, (((f67_4.up l70 rfl).up l80 rfl).up l84 rfl)⟩))
  ·replace hm := bf hm hc63
   refine Cw.skip (Cw.seq (Cw.region (Lw.m v11 rfl (Lw.g v11 rfl (Lw.nil ?_)))))
   obtain ⟨W88, ew88, l88, o88⟩ := (o12.up l60 rfl).dyeO 31
   have a89 := a61.t l88 rfl
   cases hm
   rw [← ew88]
   exact Cw.ret (ret1 rfl (Res.mk a89 ⟨v11, rfl, o88.s, (f60_0.up l88 rfl)⟩))

theorem p59 {W : CW} {K : List Nat} {x0 : Vm.l30Rd} {g0_ : Nat} {v0_0_ : Value} {k0 : Nat} {c0 : Nat} {r : (List Vm.Memo) × Int} (hB0 : Bx W c0 g0_ [v0_0_, vI x0.p]) (h0_0 : Rd W K [v0_0_] x0.b) (hJ : okJ K [c0] = true) (hm : Vm.spec_l30Memos x0 = some r) : CallR Try.prog 59 [ptr (bx g0_)].toArray W.w (Res W [c0] fun W' v => ∃ (u0 : Value), v = u0 ∧ Ow W' k0 [] [u0] r.1 ∧ Bx W' c0 g0_ [v0_0_, vI r.2]) :=
 CallR.adJ (J := [c0]) (fun c => bif Nat.beq c 0 then 0 else bif Nat.beq c 2 then c0 else bif Nat.beq c 31 then k0 else 0) (c59 (V := W.view K [c0]) (hB0.viewJ 0 hJ) (h0_0.view _) hm) fun _ _ ⟨u0, e, f0, f1⟩ => ⟨u0, e, f0.one1.backN rfl, Bx.backJ 0 f1 rfl⟩

end Go.Sx
