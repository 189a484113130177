/- Walks: each function answers as its model, printed by a program of ours. Conditions: the arguments read as they are given. -/
import Derived.Test.YtmjjhnahdmlmaaaGreatDoorXTs
import Derived.Test.YtmjjhnahdmlmaaaGreatDoorXMd
import Derived.Test.YtmjjhnahdmlmaaaGreatDoorXW0
import Derived.Test.YtmjjhnahdmlmaaaGreatDoorXW8
import Derived.Test.YtmjjhnahdmlmaaaGreatDoorXE
namespace Go.Sx
open Go Go.Proofs Go.Vm Rp
set_option linter.unusedVariables false
set_option linter.unusedSimpArgs false

theorem c7 {V : CW} {x0 : List Byte} {v0_ : Value} {r : Vm.Repo × Int} (h0 : Rd V [0] [v0_] x0) (hm : Vm.spec_DrawRepoTree x0 = some r) : CallR Tryz.prog 7 [v0_].toArray V.w (Res V LL fun Wf v => ∃ (u0_0 : Value) (u0_1 : Value), v = .tuple [.agg [u0_0, u0_1].toArray, vI r.2].toArray ∧ OwS Wf [31] [] [u0_0] r.1.Commits ∧ OwS Wf [32] [] [u0_1] r.1.Heads) := by
 unfold Vm.spec_DrawRepoTree at hm
 obtain ⟨W0, hW0⟩ : ∃ W, W = V := ⟨V, rfl⟩
 subst hW0
 refine CallR.of Tryz.func7 rfl rfl rfl rfl (Cw.seq (Cw.region (Lw.t rfl (T.alloc 2 (cs := [.slice none 0 0, .slice none 0 0]) rfl) ?_)))
 rintro _ _ ⟨g1, W1, rfl, rfl, l1, b1⟩
 have a2 := l1.o
 refine Lw.g (vI 0) rfl (Lw.nil (Cw.seq (Cw.region (Lw.m v0_ rfl ?_))))
 obtain ⟨z4, e5, hm⟩ := ob hm
 refine Lw.t rfl (T.call rfl (p24 (K := [0]) (k0 := 3) (h0.ul a2) e5)) ?_
 rintro _ _ ⟨W6, rfl, l6, ⟨g0_6, v0_0_6, rfl, f6_0, f6_1⟩⟩
 have s7 := f6_1.sub (M := [0]) rfl
 have a8 := a2.n l6
 refine Lw.g (ptr (bx g0_6)) rfl (Lw.nil (Cw.seq (Cw.region (Lw.m (ptr (bx g0_6)) rfl ?_))))
 obtain ⟨z10, e11, hm⟩ := ob hm
 refine Lw.t rfl (T.call rfl (p25 (K := [0]) (k0 := 4) (k1 := 5) (c0 := 3) (x0 := z4) f6_0 s7 rfl e11)) ?_
 rintro _ _ ⟨W12, rfl, l12, ⟨v0_0_12, v0_1_12, rfl, f12_0, f12_1, f12_2⟩⟩
 have a13 := l12.s rfl
 refine Lw.t rfl (T.alloc 6 (cs := [.slice none 0 0, .slice none 0 0]) rfl) ?_
 rintro _ _ ⟨g15, W15, rfl, rfl, l15, b15⟩
 have a16 := l15.o
 refine Lw.u (T.sta (vs := [v0_0_12, v0_1_12]) b15 rfl rfl (oc_cons (f12_0.up l15 rfl).oc (oc_cons (f12_1.up l15 rfl).oc oc_nil)) rfl rfl) ?_
 rintro _ _ ⟨W21, rfl, l21, b21⟩
 have a22 := l21.s rfl
 refine Lw.nil (Cw.seq (Cw.draw [2, 3] [(0, 1), (1, 0), (2, 1), (3, 2), (4, 2), (5, 0)] mixed (by kernel_rfl) fun W27 l27 => ?_))
 have a28 := l27.o
 have o29 := ((f12_0.up l15 rfl).up l21 rfl).up l27 rfl
 have o30 := ((f12_1.up l15 rfl).up l21 rfl).up l27 rfl
 refine Mw.q rfl rfl (fun _ c => R.lda (cs := [v0_0_12, v0_1_12]) ((b21.up l27 rfl).clcs rfl c) rfl rfl) (Mw.p rfl rfl (fun _ => R.mv (v := ptr (bx g0_6)) rfl) (Mw.q rfl rfl (fun _ c => R.lda (cs := [v0_0_12, v0_1_12]) ((b21.up l27 rfl).clcs rfl c) rfl rfl) ?_))
 obtain ⟨z35, e36, hm⟩ := ob hm
 refine Mw.t rfl rfl (T.call rfl (p26 (K := [0, 4, 5])  (c0 := 3) (x0 := (Vm.l30Rd.mk z4.b z10.2)) (x1 := (Vm.Repo.mk z10.1.Commits z10.1.Heads)) (((f12_2.up l15 rfl).up l21 rfl).up l27 rfl) ((s7.ul (((a13.trans a16).trans a22).trans a28)).sub (M := [0, 4, 5]) rfl) ((Repo.rd (K := [4, 5]) z10.1.Commits z10.1.Heads (o29.rd.sub (M := [4, 5]) rfl) (o30.rd.sub (M := [4, 5]) rfl)).sub (M := [0, 4, 5]) rfl) rfl e36)) ?_
 rintro _ _ ⟨W37, rfl, l37, ⟨rfl, f37_0⟩⟩
 have a38 := ((((a8.trans a13).trans a16).trans a22).trans a28).t l37 rfl
 refine ⟨⟨_, rfl, (l37.sub (M := [2, 3]) rfl)⟩, ?_⟩
 refine Mw.tu rfl (T.sta (vs := [v0_0_12, v0_1_12]) ((((((b1.up l6 rfl).up l12 rfl).up l15 rfl).up l21 rfl).up l27 rfl).up l37 rfl) rfl rfl (oc_cons (o29.up l37 rfl).oc (oc_cons (o30.up l37 rfl).oc oc_nil)) rfl rfl) ?_
 rintro _ _ ⟨W43, rfl, l43, b43⟩
 have a44 := a38.t l43 rfl
 refine ⟨⟨_, rfl, ((l37.sub (M := [2, 3]) rfl).trans (l43.sub (M := [2, 3]) rfl))⟩, ?_⟩
 refine Mw.p rfl rfl (fun _ => R.as (v := vI z35.1) rfl) (Mw.nil ?_)
 obtain ⟨W49, ew49, l49, o49⟩ := ((o29.up l37 rfl).up l43 rfl).dyeO 31
 have a50 := a44.t l49 rfl
 obtain ⟨W55, ew55, l55, o55⟩ := (((o30.up l37 rfl).up l43 rfl).up l49 rfl).dyeO 32
 have a56 := a50.t l55 rfl
 cases hm
 rw [← ew55.trans (ew49)]
 exact Cw.ret (retA2 rfl ((b43.up l49 rfl).up l55 rfl) rfl (Res.mk a56 ⟨v0_0_12, v0_1_12, rfl, (o49.up l55 rfl).s, o55.s⟩))

theorem p7 {W : CW} {K : List Nat} {x0 : List Byte} {v0_ : Value} {k0 : Nat} {k1 : Nat} {r : Vm.Repo × Int} (h0 : Rd W K [v0_] x0) (hm : Vm.spec_DrawRepoTree x0 = some r) : CallR Tryz.prog 7 [v0_].toArray W.w (Res W [] fun W' v => ∃ (u0_0 : Value) (u0_1 : Value), v = .tuple [.agg [u0_0, u0_1].toArray, vI r.2].toArray ∧ Ow W' k0 [] [u0_0] r.1.Commits ∧ Ow W' k1 [] [u0_1] r.1.Heads) :=
 CallR.adJ (J := []) (fun c => bif Nat.beq c 0 then 0 else bif Nat.beq c 31 then k0 else bif Nat.beq c 32 then k1 else 0) (c7 (V := W.view K []) (h0.view _) hm) fun _ _ ⟨u0_0, u0_1, e, f0, f1⟩ => ⟨u0_0, u0_1, e, f0.one1.backN rfl, f1.one1.backN rfl⟩

theorem c42 {V : CW} {x0 : Int} {x1 : Int} {x2 : Int} {r : Bool}  (hm : Vm.impl_within x0 x1 x2 = some r) : CallR Tryz.prog 42 [vI x0, vI x1, vI x2].toArray V.w (Res V LL fun Wf v => v = vB r) := by
 unfold Vm.impl_within at hm
 obtain ⟨W0, hW0⟩ : ∃ W, W = V := ⟨V, rfl⟩
 subst hW0
 refine CallR.of Tryz.func42 rfl rfl rfl rfl (Cw.seq (Cw.region (Lw.g (vB false) rfl (Lw.nil ?_))))
 obtain ⟨K3, hK3, hm⟩ := jn_e hm
 refine Cw.join 7 14 [6] (fun l w => ∃ (y1 : Bool) (W2 : CW), W2.w = w ∧ Le [] W0 W2 ∧ l = [vB y1] ∧ K3 y1 = some r) ?_ ?_
 ·rintro _ _ σ ⟨y1, W2, rfl, l2, rfl, hm⟩
  rw [hK3] at hm
  have a4 := l2.o
  cases hm
  exact Cw.ret (ret1 rfl (Res.mk a4 rfl))
 ·refine Cw.region (Lw.m (vI x1) rfl (Lw.m (vI x0) rfl (Lw.le rfl (Lw.m (vB (decide ((x1 : Int) ≤ (x0 : Int)))) rfl (bsplit (decide ((x1 : Int) ≤ (x0 : Int))) (fun hc5 => ?_) (fun hc5 => ?_))))))
  ·replace hm := bt hm hc5
   refine Lw.wa hc5 rfl (Lw.m (vI x0) rfl (Lw.wa hc5 rfl (Lw.m (vI x2) rfl (Lw.wa hc5 rfl (Lw.le rfl (Lw.p hc5 (vB (decide ((x0 : Int) ≤ (x2 : Int)))) rfl (Lw.g (vB (decide ((x0 : Int) ≤ (x2 : Int)))) rfl (Lw.nil (⟨?_, ⟨decide ((x0 : Int) ≤ (x2 : Int)), W0, rfl, Le.refl _ _, rfl, hm⟩⟩)))))))))
   iterate 9 (refine .u ?_)
   exact Agree.refl _
  ·replace hm := bf hm hc5
   refine Lw.ps hc5 rfl (Lw.ps hc5 rfl (Lw.ps hc5 rfl (Lw.p hc5 (vB false) rfl (Lw.g (vB false) rfl (Lw.nil (⟨?_, ⟨false, W0, rfl, Le.refl _ _, rfl, hm⟩⟩))))))
   iterate 9 (refine .u ?_)
   exact Agree.refl _

theorem p42 {W : CW} {K : List Nat} {x0 : Int} {x1 : Int} {x2 : Int} {r : Bool}  (hm : Vm.impl_within x0 x1 x2 = some r) : CallR Tryz.prog 42 [vI x0, vI x1, vI x2].toArray W.w (Res W [] fun W' v => v = vB r) :=
 (c42 (V := W.view K [])  hm).ad (fk 0) fun _ _ e => e

theorem c56 {V : CW} {x0 : Byte} {r : Bool}  (hm : Vm.impl_wordByte x0 = some r) : CallR Tryz.prog 56 [.int .u8 (UInt8.toNat x0 : Int)].toArray V.w (Res V LL fun Wf v => v = vB r) := by
 unfold Vm.impl_wordByte at hm
 obtain ⟨W0, hW0⟩ : ∃ W, W = V := ⟨V, rfl⟩
 subst hW0
 refine CallR.of Tryz.func56 rfl rfl rfl rfl (Cw.seq (Cw.region (Lw.g (vB false) rfl (Lw.nil ?_))))
 obtain ⟨K3, hK3, hm⟩ := jn_e hm
 refine Cw.join 3 16 [2] (fun l w => ∃ (y1 : Bool) (W2 : CW), W2.w = w ∧ Le [] W0 W2 ∧ l = [vB y1] ∧ K3 y1 = some r) ?_ ?_
 ·rintro _ _ σ ⟨y1, W2, rfl, l2, rfl, hm⟩
  rw [hK3] at hm
  have a4 := l2.o
  cases hm
  exact Cw.ret (ret1 rfl (Res.mk a4 rfl))
 ·refine Cw.region (Lw.m (.int .u8 (UInt8.toNat x0 : Int)) rfl (Lw.ge rfl (Lw.m (vB (decide ((97 : Int) ≤ ((UInt8.toNat x0 : Int) : Int)))) rfl (bsplit (decide ((97 : Int) ≤ ((UInt8.toNat x0 : Int) : Int))) (fun hc5 => ?_) (fun hc5 => ?_)))))
  ·replace hm := bt hm hc5
   refine Lw.wa hc5 rfl (Lw.m (.int .u8 (UInt8.toNat x0 : Int)) rfl (Lw.wa hc5 rfl (Lw.le rfl (Lw.p hc5 (vB (decide (((UInt8.toNat x0 : Int) : Int) ≤ (122 : Int)))) rfl (Lw.m (vB (decide (((UInt8.toNat x0 : Int) : Int) ≤ (122 : Int)))) rfl (bsplit (decide (((UInt8.toNat x0 : Int) : Int) ≤ (122 : Int))) (fun hc6 => ?_) (fun hc6 => ?_)))))))
   ·replace hm := bt hm hc6
    refine Lw.ps hc6 rfl (Lw.ps hc6 rfl (Lw.ps hc6 rfl (Lw.pu rfl (Lw.pu rfl (Lw.ps hc6 rfl (Lw.p hc6 (vB true) rfl (Lw.g (vB true) rfl (Lw.nil (⟨?_, ⟨true, W0, rfl, Le.refl _ _, rfl, hm⟩⟩)))))))))
    iterate 15 (refine .u ?_)
    exact Agree.refl _
   ·replace hm := bf hm hc6
    refine Lw.wa hc6 rfl (Lw.m (.int .u8 (UInt8.toNat x0 : Int)) rfl (Lw.wa hc6 rfl (Lw.ge rfl (Lw.wa hc6 rfl (Lw.m (vB (decide ((48 : Int) ≤ ((UInt8.toNat x0 : Int) : Int)))) rfl (bsplit (decide ((48 : Int) ≤ ((UInt8.toNat x0 : Int) : Int))) (fun hc7 => ?_) (fun hc7 => ?_)))))))
    ·replace hm := bt hm hc7
     refine Lw.wa hc7 rfl (Lw.m (.int .u8 (UInt8.toNat x0 : Int)) rfl (Lw.wa hc7 rfl (Lw.le rfl (Lw.wa hc6 rfl (Lw.p hc7 (vB (decide (((UInt8.toNat x0 : Int) : Int) ≤ (57 : Int)))) rfl (Lw.p hc6 (vB (decide (((UInt8.toNat x0 : Int) : Int) ≤ (57 : Int)))) rfl (Lw.g (vB (decide (((UInt8.toNat x0 : Int) : Int) ≤ (57 : Int)))) rfl (Lw.nil (⟨?_, ⟨decide (((UInt8.toNat x0 : Int) : Int) ≤ (57 : Int)), W0, rfl, Le.refl _ _, rfl, hm⟩⟩)))))))))
     iterate 15 (refine .u ?_)
     exact Agree.refl _
    ·replace hm := bf hm hc7
     refine Lw.ps hc7 rfl (Lw.ps hc7 rfl (Lw.wa hc6 rfl (Lw.p hc7 (vB false) rfl (Lw.p hc6 (vB false) rfl (Lw.g (vB false) rfl (Lw.nil (⟨?_, ⟨false, W0, rfl, Le.refl _ _, rfl, hm⟩⟩)))))))
     iterate 15 (refine .u ?_)
     exact Agree.refl _
  ·replace hm := bf hm hc5
   refine Lw.ps hc5 rfl (Lw.ps hc5 rfl (Lw.p hc5 (vB false) rfl (Lw.m (vB false) rfl (Lw.wa rfl rfl (Lw.m (.int .u8 (UInt8.toNat x0 : Int)) rfl (Lw.wa rfl rfl (Lw.ge rfl (Lw.wa rfl rfl (Lw.m (vB (decide ((48 : Int) ≤ ((UInt8.toNat x0 : Int) : Int)))) rfl (bsplit (decide ((48 : Int) ≤ ((UInt8.toNat x0 : Int) : Int))) (fun hc8 => ?_) (fun hc8 => ?_)))))))))))
   ·replace hm := bt hm hc8
    refine Lw.wa hc8 rfl (Lw.m (.int .u8 (UInt8.toNat x0 : Int)) rfl (Lw.wa hc8 rfl (Lw.le rfl (Lw.wa rfl rfl (Lw.p hc8 (vB (decide (((UInt8.toNat x0 : Int) : Int) ≤ (57 : Int)))) rfl (Lw.p rfl (vB (decide (((UInt8.toNat x0 : Int) : Int) ≤ (57 : Int)))) rfl (Lw.g (vB (decide (((UInt8.toNat x0 : Int) : Int) ≤ (57 : Int)))) rfl (Lw.nil (⟨?_, ⟨decide (((UInt8.toNat x0 : Int) : Int) ≤ (57 : Int)), W0, rfl, Le.refl _ _, rfl, hm⟩⟩)))))))))
    iterate 15 (refine .u ?_)
    exact Agree.refl _
   ·replace hm := bf hm hc8
    refine Lw.ps hc8 rfl (Lw.ps hc8 rfl (Lw.wa rfl rfl (Lw.p hc8 (vB false) rfl (Lw.p rfl (vB false) rfl (Lw.g (vB false) rfl (Lw.nil (⟨?_, ⟨false, W0, rfl, Le.refl _ _, rfl, hm⟩⟩)))))))
    iterate 15 (refine .u ?_)
    exact Agree.refl _

theorem p56 {W : CW} {K : List Nat} {x0 : Byte} {r : Bool}  (hm : Vm.impl_wordByte x0 = some r) : CallR Tryz.prog 56 [.int .u8 (UInt8.toNat x0 : Int)].toArray W.w (Res W [] fun W' v => v = vB r) :=
 (c56 (V := W.view K [])  hm).ad (fk 0) fun _ _ e => e

theorem c41 {V : CW} {x0 : Str} {r : Bool}  (hm : Vm.impl_nameOk x0 = some r) : CallR Tryz.prog 41 [vS x0].toArray V.w (Res V LL fun Wf v => v = vB r) := by
 unfold Vm.impl_nameOk at hm
 obtain ⟨W0, hW0⟩ : ∃ W, W = V := ⟨V, rfl⟩
 subst hW0
 refine CallR.of Tryz.func41 rfl rfl rfl rfl (Cw.seq (Cw.region (Lw.g (vB false) rfl (Lw.nil (Cw.seq (Cw.seq (Cw.region (Lw.m (vS x0) rfl (Lw.r rfl (R.lenS rfl) ?_)))))))))
 obtain ⟨z1, e2, hm⟩ := ob hm
 refine Lw.t rfl (T.call rfl (p42 (K := [0])   e2)) ?_
 rintro _ _ ⟨W3, rfl, l3, rfl⟩
 have a4 := l3.o
 refine Lw.r rfl (R.not rfl) (Lw.nil (Cw.cond (b := (!z1)) rfl (fun hc5 => ?_) (fun hc5 => ?_)))
 ·replace hm := bt hm hc5
  refine Cw.seq (Cw.region (Lw.g (vB false) rfl (Lw.nil ?_)))
  cases hm
  exact Cw.ret (ret1 rfl (Res.mk a4 rfl))
 ·replace hm := bf hm hc5
  refine Cw.skip (Cw.seq (Cw.seq (Cw.region (Lw.g (vI 0) rfl (Lw.nil (Cw.block ?_))))))
  obtain ⟨K9, hK9, hm⟩ := jn_e hm
  refine Cw.loop 8 18 [2, 3] (fun m l w => ∃ (y6 : Bool) (y7 : Int) (W8 : CW), W8.w = w ∧ Le [] W3 W8 ∧ l = [vB y6, vI y7] ∧ Vm.impl_nameOk_l1 x0 K9 m y6 y7 = some r) (((x0.length : Int) - 0).toNat + 1) ⟨false, 0, W3, rfl, Le.refl _ _, rfl, hm⟩ ?_
  rintro m10 _ _ σ ⟨y6, y7, W8, rfl, l8, rfl, hm⟩
  obtain _ | m10 := m10
  ·cases hm
  unfold Vm.impl_nameOk_l1 at hm
  have a11 := a4.n l8
  refine Cw.seq (Cw.seq (Cw.region (Lw.m (vI y7) rfl (Lw.m (vS x0) rfl (Lw.r rfl (R.lenS rfl) (Lw.lt rfl (Lw.nil (Cw.cond (b := decide ((y7 : Int) < ((x0.length : Int) : Int))) rfl (fun hc12 => ?_) (fun hc12 => ?_)))))))))
  ·replace hm := bt hm hc12
   refine Cw.skip (Cw.seq (Cw.block (Cw.seq (Cw.region (Lw.m (vS x0) rfl (Lw.m (vI y7) rfl ?_))))))
   obtain ⟨u13, e14, hm⟩ := ob hm
   refine Lw.r rfl (R.chm e14 rfl rfl) ?_
   obtain ⟨z15, e16, hm⟩ := ob hm
   refine Lw.t rfl (T.call rfl (p56 (K := [0])   e16)) ?_
   rintro _ _ ⟨W17, rfl, l17, rfl⟩
   have a18 := a11.n l17
   refine Lw.r rfl (R.not rfl) (Lw.nil (Cw.cond (b := (!z15)) rfl (fun hc19 => ?_) (fun hc19 => ?_)))
   ·replace hm := bt hm hc19
    refine Cw.seq (Cw.region (Lw.g (vB false) rfl (Lw.nil ?_)))
    cases hm
    exact Cw.ret (ret1 rfl (Res.mk a18 rfl))
   ·replace hm := bf hm hc19
    refine Cw.skip (Cw.region (Lw.m (vI y7) rfl (Lw.add rfl (Lw.g (vI (w64 (y7 + 1))) rfl (Lw.nil (⟨?_, m10, Nat.lt_succ_self m10, ⟨y6, w64 (y7 + 1), W17, rfl, (l8.trans l17), rfl, hm⟩⟩))))))
    iterate 14 (refine .u ?_)
    exact Agree.base
  ·replace hm := bf hm hc12
   refine Cw.exit ?_
   rw [hK9] at hm
   refine Cw.seq (Cw.region (Lw.g (vB true) rfl (Lw.nil ?_)))
   cases hm
   exact Cw.ret (ret1 rfl (Res.mk a11 rfl))

theorem p41 {W : CW} {K : List Nat} {x0 : Str} {r : Bool}  (hm : Vm.impl_nameOk x0 = some r) : CallR Tryz.prog 41 [vS x0].toArray W.w (Res W [] fun W' v => v = vB r) :=
 (c41 (V := W.view K [])  hm).ad (fk 0) fun _ _ e => e

theorem c53 {V : CW} {x0 : Str} {r : Bool}  (hm : Vm.impl_lineOk x0 = some r) : CallR Tryz.prog 53 [vS x0].toArray V.w (Res V LL fun Wf v => v = vB r) := by
 unfold Vm.impl_lineOk at hm
 obtain ⟨W0, hW0⟩ : ∃ W, W = V := ⟨V, rfl⟩
 subst hW0
 refine CallR.of Tryz.func53 rfl rfl rfl rfl (Cw.seq (Cw.region (Lw.g (vB false) rfl (Lw.nil (Cw.seq (Cw.seq (Cw.region (Lw.m (vS x0) rfl (Lw.r rfl (R.lenS rfl) (Lw.gt rfl (Lw.nil (Cw.cond (b := decide ((12 : Int) < ((x0.length : Int) : Int))) rfl (fun hc1 => ?_) (fun hc1 => ?_)))))))))))))
 ·replace hm := bt hm hc1
  refine Cw.seq (Cw.region (Lw.g (vB false) rfl (Lw.nil ?_)))
  cases hm
  exact Cw.ret (ret1 rfl (Res.mk (Le.refl _ _) rfl))
 ·replace hm := bf hm hc1
  refine Cw.skip (Cw.seq (Cw.seq (Cw.region (Lw.g (vI 0) rfl (Lw.nil (Cw.block ?_))))))
  obtain ⟨K5, hK5, hm⟩ := jn_e hm
  refine Cw.loop 7 22 [2, 3] (fun m l w => ∃ (y2 : Bool) (y3 : Int) (W4 : CW), W4.w = w ∧ Le [] W0 W4 ∧ l = [vB y2, vI y3] ∧ Vm.impl_lineOk_l1 x0 K5 m y2 y3 = some r) (((x0.length : Int) - 0).toNat + 1) ⟨false, 0, W0, rfl, Le.refl _ _, rfl, hm⟩ ?_
  rintro m6 _ _ σ ⟨y2, y3, W4, rfl, l4, rfl, hm⟩
  obtain _ | m6 := m6
  ·cases hm
  unfold Vm.impl_lineOk_l1 at hm
  have a7 := l4.o
  refine Cw.seq (Cw.seq (Cw.region (Lw.m (vI y3) rfl (Lw.m (vS x0) rfl (Lw.r rfl (R.lenS rfl) (Lw.lt rfl (Lw.nil (Cw.cond (b := decide ((y3 : Int) < ((x0.length : Int) : Int))) rfl (fun hc8 => ?_) (fun hc8 => ?_)))))))))
  ·replace hm := bt hm hc8
   refine Cw.skip (Cw.seq (Cw.block ?_))
   obtain ⟨K11, hK11, hm⟩ := jn_e hm
   refine Cw.join 13 22 [22] (fun l w => ∃ (y9 : Bool) (W10 : CW), W10.w = w ∧ Le [] W4 W10 ∧ l = [vB y9] ∧ K11 y9 = some r) ?_ ?_
   ·rintro _ _ σ ⟨y9, W10, rfl, l10, rfl, hm⟩
    rw [hK11] at hm
    have a12 := a7.n l10
    refine Cw.cond (b := y9) rfl (fun hc13 => ?_) (fun hc13 => ?_)
    ·replace hm := bt hm hc13
     refine Cw.seq (Cw.region (Lw.g (vB false) rfl (Lw.nil ?_)))
     cases hm
     exact Cw.ret (ret1 rfl (Res.mk a12 rfl))
    ·replace hm := bf hm hc13
     refine Cw.skip (Cw.region (Lw.m (vI y3) rfl (Lw.add rfl (Lw.g (vI (w64 (y3 + 1))) rfl (Lw.nil (⟨?_, m6, Nat.lt_succ_self m6, ⟨y2, w64 (y3 + 1), W10, rfl, (l4.trans l10), rfl, hm⟩⟩))))))
     iterate 4 (refine .u ?_)
     refine Agree.ov0 rfl ?_
     iterate 6 (refine .u ?_)
     exact Agree.base
   ·refine Cw.region (Lw.m (vS x0) rfl (Lw.m (vI y3) rfl ?_))
    obtain ⟨u14, e15, hm⟩ := ob hm
    refine Lw.r rfl (R.chm e15 rfl rfl) (Lw.lt rfl (Lw.m (vB (decide (((UInt8.toNat u14 : Int) : Int) < (32 : Int)))) rfl (bsplit (decide (((UInt8.toNat u14 : Int) : Int) < (32 : Int))) (fun hc16 => ?_) (fun hc16 => ?_))))
    ·replace hm := bt hm hc16
     refine Lw.ps hc16 rfl (Lw.ps hc16 rfl (Lw.ps hc16 rfl (Lw.ps hc16 rfl (Lw.p hc16 (vB true) rfl (Lw.nil (⟨?_, ⟨true, W4, rfl, Le.refl _ _, rfl, hm⟩⟩))))))
     iterate 10 (refine .u ?_)
     exact Agree.refl _
    ·replace hm := bf hm hc16
     refine Lw.wa hc16 rfl (Lw.m (vS x0) rfl (Lw.wa hc16 rfl (Lw.m (vI y3) rfl (Lw.wa hc16 rfl ?_))))
     obtain ⟨u17, e18, hm⟩ := ob hm
     refine Lw.r rfl (R.chm e18 rfl rfl) (Lw.wa hc16 rfl (Lw.gt rfl (Lw.p hc16 (vB (decide ((126 : Int) < ((UInt8.toNat u17 : Int) : Int)))) rfl (Lw.nil (⟨?_, ⟨decide ((126 : Int) < ((UInt8.toNat u17 : Int) : Int)), W4, rfl, Le.refl _ _, rfl, hm⟩⟩)))))
     iterate 10 (refine .u ?_)
     exact Agree.refl _
  ·replace hm := bf hm hc8
   refine Cw.exit ?_
   rw [hK5] at hm
   refine Cw.seq (Cw.region (Lw.g (vB true) rfl (Lw.nil ?_)))
   cases hm
   exact Cw.ret (ret1 rfl (Res.mk a7 rfl))

theorem p53 {W : CW} {K : List Nat} {x0 : Str} {r : Bool}  (hm : Vm.impl_lineOk x0 = some r) : CallR Tryz.prog 53 [vS x0].toArray W.w (Res W [] fun W' v => v = vB r) :=
 (c53 (V := W.view K [])  hm).ad (fk 0) fun _ _ e => e

theorem c34 {V : CW} {x0 : List Str} {v0_ : Value} {r : Bool} (h0 : Rd V [0] [v0_] x0) (hm : Vm.impl_TextOk x0 = some r) : CallR Tryz.prog 34 [v0_].toArray V.w (Res V LL fun Wf v => v = vB r) := by
 unfold Vm.impl_TextOk at hm
 obtain ⟨W0, hW0⟩ : ∃ W, W = V := ⟨V, rfl⟩
 subst hW0
 refine CallR.of Tryz.func34 rfl rfl rfl rfl (Cw.seq (Cw.region (Lw.g (vB false) rfl (Lw.nil (Cw.seq (Cw.seq (Cw.region (Lw.m v0_ rfl (Lw.ln x0 h0 rfl (Lw.gt rfl (Lw.nil (Cw.cond (b := decide ((10 : Int) < ((x0.length : Int) : Int))) rfl (fun hc1 => ?_) (fun hc1 => ?_)))))))))))))
 ·replace hm := bt hm hc1
  refine Cw.seq (Cw.region (Lw.g (vB false) rfl (Lw.nil ?_)))
  cases hm
  exact Cw.ret (ret1 rfl (Res.mk (Le.refl _ _) rfl))
 ·replace hm := bf hm hc1
  refine Cw.skip (Cw.seq (Cw.seq (Cw.region (Lw.m v0_ rfl (Lw.ln x0 h0 rfl (Lw.m (vI 0) rfl (Lw.nil (Cw.block ?_))))))))
  obtain ⟨K6, hK6, hm⟩ := jn_e hm
  refine Cw.loop 10 17 [2, 4, 10] (fun m l w => ∃ (y2 : Bool) (y4 : Int) (j3 : Value) (W5 : CW), W5.w = w ∧ Le [] W0 W5 ∧ l = [vB y2, j3, vI y4] ∧ Vm.impl_TextOk_l1 x0 K6 m y2 y4 = some r) (((x0.length : Int) - 0).toNat + 1) ⟨false, 0, undef, W0, rfl, Le.refl _ _, rfl, hm⟩ ?_
  rintro m7 _ _ σ ⟨y2, y4, j3, W5, rfl, l5, rfl, hm⟩
  obtain _ | m7 := m7
  ·cases hm
  unfold Vm.impl_TextOk_l1 at hm
  have a8 := l5.o
  refine Cw.seq (Cw.region (Lw.lt rfl (Lw.nil (Cw.seq (Cw.cond (b := decide ((y4 : Int) < ((x0.length : Int) : Int))) rfl (fun hc9 => ?_) (fun hc9 => ?_))))))
  ·replace hm := bt hm hc9
   refine Cw.skip (Cw.seq (Cw.block (Cw.seq (Cw.region ?_))))
   obtain ⟨u10, e11, hm⟩ := ob hm
   refine Lw.r rfl (R.ix (α := Str) (h0.ul a8) e11 rfl rfl rfl) (Lw.r rfl (R.ld rfl rfl ((h0.ul a8).at_ e11).str) (Lw.g (vS u10) rfl (Lw.nil (Cw.seq (Cw.region (Lw.m (vS u10) rfl ?_))))))
   obtain ⟨z13, e14, hm⟩ := ob hm
   refine Lw.t rfl (T.call rfl (p53 (K := [0])   e14)) ?_
   rintro _ _ ⟨W15, rfl, l15, rfl⟩
   have a16 := a8.n l15
   refine Lw.r rfl (R.not rfl) (Lw.nil (Cw.cond (b := (!z13)) rfl (fun hc17 => ?_) (fun hc17 => ?_)))
   ·replace hm := bt hm hc17
    refine Cw.seq (Cw.region (Lw.g (vB false) rfl (Lw.nil ?_)))
    cases hm
    exact Cw.ret (ret1 rfl (Res.mk a16 rfl))
   ·replace hm := bf hm hc17
    refine Cw.skip (Cw.region (Lw.add rfl (Lw.m (vI (w64 (y4 + 1))) rfl (Lw.nil (⟨?_, m7, Nat.lt_succ_self m7, ⟨y2, w64 (y4 + 1), vS u10, W15, rfl, (l5.trans l15), rfl, hm⟩⟩)))))
    iterate 12 (refine .u ?_)
    exact Agree.base
  ·replace hm := bf hm hc9
   refine Cw.exit ?_
   rw [hK6] at hm
   refine Cw.seq (Cw.region (Lw.g (vB true) rfl (Lw.nil ?_)))
   cases hm
   exact Cw.ret (ret1 rfl (Res.mk a8 rfl))

theorem p34 {W : CW} {K : List Nat} {x0 : List Str} {v0_ : Value} {r : Bool} (h0 : Rd W K [v0_] x0) (hm : Vm.impl_TextOk x0 = some r) : CallR Tryz.prog 34 [v0_].toArray W.w (Res W [] fun W' v => v = vB r) :=
 (c34 (V := W.view K []) (h0.view _) hm).ad (fk 0) fun _ _ e => e

theorem c35 {V : CW} {x0 : Str} {r : Bool} (h99 : Gl 0 V [0]) (hm : Vm.impl_PathOk x0 = some r) : CallR Tryz.prog 35 [vS x0].toArray V.w (Res V LL fun Wf v => v = vB r) := by
 unfold Vm.impl_PathOk at hm
 obtain ⟨W0, hW0⟩ : ∃ W, W = V := ⟨V, rfl⟩
 subst hW0
 refine CallR.of Tryz.func35 rfl rfl rfl rfl (Cw.seq (Cw.region (Lw.g (vB false) rfl (Lw.nil (Cw.seq (Cw.region (Lw.m (vS x0) rfl ?_)))))))
 obtain ⟨z1, e2, hm⟩ := ob hm
 refine Lw.t rfl (T.call rfl (p54 (K := [0]) (k0 := 2) h99 e2)) ?_
 rintro v0_3 _ ⟨W3, rfl, l3, ⟨_, rfl, f3_0⟩⟩
 have a4 := l3.o
 refine Lw.g v0_3 rfl (Lw.nil (Cw.seq (Cw.seq (Cw.region (Lw.m v0_3 rfl (Lw.ln z1 f3_0.rd rfl (Lw.gt rfl (Lw.nil (Cw.cond (b := decide ((3 : Int) < ((z1.length : Int) : Int))) rfl (fun hc5 => ?_) (fun hc5 => ?_))))))))))
 ·replace hm := bt hm hc5
  refine Cw.seq (Cw.region (Lw.g (vB false) rfl (Lw.nil ?_)))
  cases hm
  exact Cw.ret (ret1 rfl (Res.mk a4 rfl))
 ·replace hm := bf hm hc5
  refine Cw.skip (Cw.seq (Cw.seq (Cw.region (Lw.m v0_3 rfl (Lw.ln z1 f3_0.rd rfl (Lw.m (vI 0) rfl (Lw.nil (Cw.block ?_))))))))
  obtain ⟨K10, hK10, hm⟩ := jn_e hm
  refine Cw.loop 13 20 [2, 5, 13] (fun m l w => ∃ (y6 : Bool) (y8 : Int) (j7 : Value) (W9 : CW), W9.w = w ∧ Le [] W3 W9 ∧ l = [vB y6, j7, vI y8] ∧ Vm.impl_PathOk_l1 z1 K10 m y6 y8 = some r) (((z1.length : Int) - 0).toNat + 1) ⟨false, 0, undef, W3, rfl, Le.refl _ _, rfl, hm⟩ ?_
  rintro m11 _ _ σ ⟨y6, y8, j7, W9, rfl, l9, rfl, hm⟩
  obtain _ | m11 := m11
  ·cases hm
  unfold Vm.impl_PathOk_l1 at hm
  have a12 := a4.n l9
  refine Cw.seq (Cw.region (Lw.lt rfl (Lw.nil (Cw.seq (Cw.cond (b := decide ((y8 : Int) < ((z1.length : Int) : Int))) rfl (fun hc14 => ?_) (fun hc14 => ?_))))))
  ·replace hm := bt hm hc14
   refine Cw.skip (Cw.seq (Cw.block (Cw.seq (Cw.region ?_))))
   obtain ⟨u15, e16, hm⟩ := ob hm
   refine Lw.r rfl (R.ix (α := Str) (f3_0.up l9 rfl).rd e16 rfl rfl rfl) (Lw.r rfl (R.ld rfl rfl ((f3_0.up l9 rfl).rd.at_ e16).str) (Lw.g (vS u15) rfl (Lw.nil (Cw.seq (Cw.region (Lw.m (vS u15) rfl ?_))))))
   obtain ⟨z17, e18, hm⟩ := ob hm
   refine Lw.t rfl (T.call rfl (p41 (K := [0])   e18)) ?_
   rintro _ _ ⟨W19, rfl, l19, rfl⟩
   have a20 := a12.n l19
   refine Lw.r rfl (R.not rfl) (Lw.nil (Cw.cond (b := (!z17)) rfl (fun hc22 => ?_) (fun hc22 => ?_)))
   ·replace hm := bt hm hc22
    refine Cw.seq (Cw.region (Lw.g (vB false) rfl (Lw.nil ?_)))
    cases hm
    exact Cw.ret (ret1 rfl (Res.mk a20 rfl))
   ·replace hm := bf hm hc22
    refine Cw.skip (Cw.region (Lw.add rfl (Lw.m (vI (w64 (y8 + 1))) rfl (Lw.nil (⟨?_, m11, Nat.lt_succ_self m11, ⟨y6, w64 (y8 + 1), vS u15, W19, rfl, (l9.trans l19), rfl, hm⟩⟩)))))
    iterate 12 (refine .u ?_)
    exact Agree.base
  ·replace hm := bf hm hc14
   refine Cw.exit ?_
   rw [hK10] at hm
   refine Cw.seq (Cw.region (Lw.g (vB true) rfl (Lw.nil ?_)))
   cases hm
   exact Cw.ret (ret1 rfl (Res.mk a12 rfl))

theorem p35 {W : CW} {K : List Nat} {x0 : Str} {r : Bool} (h99 : Gl 0 W K) (hm : Vm.impl_PathOk x0 = some r) : CallR Tryz.prog 35 [vS x0].toArray W.w (Res W [] fun W' v => v = vB r) :=
 (c35 (V := W.view K []) (h99.view _) hm).ad (fk 0) fun _ _ e => e

theorem c36 {V : CW} {x0 : Str} {x1 : Str} {r : Bool} (h99 : Gl 0 V [0]) (hm : Vm.impl_PathIn x0 x1 = some r) : CallR Tryz.prog 36 [vS x0, vS x1].toArray V.w (Res V LL fun Wf v => v = vB r) := by
 unfold Vm.impl_PathIn at hm
 obtain ⟨W0, hW0⟩ : ∃ W, W = V := ⟨V, rfl⟩
 subst hW0
 refine CallR.of Tryz.func36 rfl rfl rfl rfl (Cw.seq (Cw.region (Lw.g (vB false) rfl (Lw.nil ?_))))
 obtain ⟨K3, hK3, hm⟩ := jn_e hm
 refine Cw.join 5 16 [4] (fun l w => ∃ (y1 : Bool) (W2 : CW), W2.w = w ∧ Le [] W0 W2 ∧ l = [vB y1] ∧ K3 y1 = some r) ?_ ?_
 ·rintro _ _ σ ⟨y1, W2, rfl, l2, rfl, hm⟩
  rw [hK3] at hm
  have a4 := l2.o
  cases hm
  exact Cw.ret (ret1 rfl (Res.mk a4 rfl))
 ·refine Cw.region (Lw.m (vS x0) rfl ?_)
  obtain ⟨z5, e6, hm⟩ := ob hm
  refine Lw.t rfl (T.call rfl (p35 (K := [0])  h99 e6)) ?_
  rintro _ _ ⟨W7, rfl, l7, rfl⟩
  have a8 := l7.o
  refine Lw.m (vB z5) rfl (bsplit z5 (fun hc9 => ?_) (fun hc9 => ?_))
  ·replace hm := bt hm hc9
   refine Lw.wa hc9 rfl (Lw.m (vS x1) rfl (Lw.wa hc9 rfl ?_))
   obtain ⟨z11, e12, hm⟩ := ob hm
   refine Lw.t rfl (T.call rfl (p35 (K := [0])  (h99.ul a8) e12)) ?_
   rintro _ _ ⟨W13, rfl, l13, rfl⟩
   refine Lw.p hc9 (vB z11) rfl (Lw.m (vB z11) rfl (bsplit z11 (fun hc15 => ?_) (fun hc15 => ?_)))
   ·replace hm := bt hm hc15
    refine Lw.wa hc15 rfl (Lw.m (vS x1) rfl (Lw.wa hc15 rfl (Lw.m (vS x0) rfl (Lw.wa hc15 rfl ?_))))
    obtain ⟨q16, e17, hm⟩ := ob hm
    refine Lw.r rfl (R.sad e17 rfl rfl) (Lw.wa hc15 rfl ?_)
    obtain ⟨z18, e19, hm⟩ := ob hm
    refine Lw.t rfl (T.call rfl (p55 (K := [0])   e19)) ?_
    rintro _ _ ⟨W20, rfl, l20, rfl⟩
    refine Lw.p hc15 (vB z18) rfl (Lw.g (vB z18) rfl (Lw.nil (⟨?_, ⟨z18, W20, rfl, (l7.trans (l13.trans l20)), rfl, hm⟩⟩)))
    iterate 13 (refine .u ?_)
    exact Agree.refl _
   ·replace hm := bf hm hc15
    refine Lw.ps hc15 rfl (Lw.ps hc15 rfl (Lw.ps hc15 rfl (Lw.ps hc15 rfl (Lw.p hc15 (vB false) rfl (Lw.g (vB false) rfl (Lw.nil (⟨?_, ⟨false, W13, rfl, (l7.trans l13), rfl, hm⟩⟩)))))))
    iterate 13 (refine .u ?_)
    exact Agree.refl _
  ·replace hm := bf hm hc9
   refine Lw.ps hc9 rfl (Lw.ps hc9 rfl (Lw.p hc9 (vB false) rfl (Lw.m (vB false) rfl (Lw.ps rfl rfl (Lw.ps rfl rfl (Lw.ps rfl rfl (Lw.ps rfl rfl (Lw.p rfl (vB false) rfl (Lw.g (vB false) rfl (Lw.nil (⟨?_, ⟨false, W7, rfl, l7, rfl, hm⟩⟩)))))))))))
   iterate 13 (refine .u ?_)
   exact Agree.refl _

theorem p36 {W : CW} {K : List Nat} {x0 : Str} {x1 : Str} {r : Bool} (h99 : Gl 0 W K) (hm : Vm.impl_PathIn x0 x1 = some r) : CallR Tryz.prog 36 [vS x0, vS x1].toArray W.w (Res W [] fun W' v => v = vB r) :=
 (c36 (V := W.view K []) (h99.view _) hm).ad (fk 0) fun _ _ e => e

theorem c11 {V : CW} {x0 : List Vm.File} {v0_ : Value} {r : Bool} (h0 : Rd V [0] [v0_] x0) (h99 : Gl 0 V [0]) (hm : Vm.impl_TreeOk x0 = some r) : CallR Tryz.prog 11 [v0_].toArray V.w (Res V LL fun Wf v => v = vB r) := by
 unfold Vm.impl_TreeOk at hm
 obtain ⟨W0, hW0⟩ : ∃ W, W = V := ⟨V, rfl⟩
 subst hW0
 refine CallR.of Tryz.func11 rfl rfl rfl rfl (Cw.seq (Cw.region (Lw.g (vB false) rfl (Lw.nil (Cw.seq (Cw.seq (Cw.region (Lw.m v0_ rfl (Lw.ln x0 h0 rfl (Lw.gt rfl (Lw.nil (Cw.cond (b := decide ((8 : Int) < ((x0.length : Int) : Int))) rfl (fun hc1 => ?_) (fun hc1 => ?_)))))))))))))
 ·replace hm := bt hm hc1
  refine Cw.seq (Cw.region (Lw.g (vB false) rfl (Lw.nil ?_)))
  cases hm
  exact Cw.ret (ret1 rfl (Res.mk (Le.refl _ _) rfl))
 ·replace hm := bf hm hc1
  refine Cw.skip (Cw.seq (Cw.seq (Cw.region (Lw.m v0_ rfl (Lw.ln x0 h0 rfl (Lw.m (vI 0) rfl (Lw.nil (Cw.block ?_))))))))
  obtain ⟨K8, hK8, hm⟩ := jn_e hm
  refine Cw.loop 12 56 [2, 3, 4, 6, 12] (fun m l w => ∃ (y2 : Bool) (y6 : Int) (j3 j4 j5 : Value) (W7 : CW), W7.w = w ∧ Le [2, 3] W0 W7 ∧ l = [vB y2, j3, j4, j5, vI y6] ∧ Vm.impl_TreeOk_l1 x0 K8 m y2 y6 = some r) (((x0.length : Int) - 0).toNat + 1) ⟨false, 0, undef, undef, undef, W0, rfl, Le.refl _ _, rfl, hm⟩ ?_
  rintro m9 _ _ σ ⟨y2, y6, j3, j4, j5, W7, rfl, l7, rfl, hm⟩
  obtain _ | m9 := m9
  ·cases hm
  unfold Vm.impl_TreeOk_l1 at hm
  have a10 := l7.s rfl
  refine Cw.seq (Cw.region (Lw.lt rfl (Lw.nil (Cw.seq (Cw.cond (b := decide ((y6 : Int) < ((x0.length : Int) : Int))) rfl (fun hc11 => ?_) (fun hc11 => ?_))))))
  ·replace hm := bt hm hc11
   refine Cw.skip (Cw.seq (Cw.block (Cw.seq (Cw.region (Lw.m (vI y6) rfl ?_)))))
   obtain ⟨u12, e13, hm⟩ := ob hm
   refine Lw.r rfl (R.ix (α := File) (h0.ul a10) e13 rfl rfl rfl) ?_
   obtain ⟨x15, c16, _, r17⟩ := ((h0.ul a10).at_ e13).cells
   obtain ⟨v18, rfl, r19⟩ := File.split r17
   refine Lw.r rfl (R.lda c16 rfl rfl) (Lw.t rfl (T.alloc 2 (cs := [vS ([] : Str), .slice none 0 0]) rfl) ?_)
   rintro _ _ ⟨g20, W20, rfl, rfl, l20, b20⟩
   have a21 := l20.o
   refine Lw.g (vI y6) rfl (Lw.u (T.sta (vs := [vS u12.Path, v18]) b20 rfl rfl (oc_cons rfl (oc_cons r19.oc oc_nil)) rfl rfl) ?_)
   rintro _ _ ⟨W22, rfl, l22, b22⟩
   have a23 := l22.s rfl
   refine Lw.nil (Cw.seq ?_)
   obtain ⟨K26, hK26, hm⟩ := jn_e hm
   refine Cw.join 17 41 [41] (fun l w => ∃ (y24 : Bool) (W25 : CW), W25.w = w ∧ Le [] W22 W25 ∧ l = [vB y24] ∧ K26 y24 = some r) ?_ ?_
   ·rintro _ _ σ ⟨y24, W25, rfl, l25, rfl, hm⟩
    rw [hK26] at hm
    have a27 := ((a10.trans a21).trans a23).n l25
    refine Cw.cond (b := y24) rfl (fun hc29 => ?_) (fun hc29 => ?_)
    ·replace hm := bt hm hc29
     refine Cw.seq (Cw.region (Lw.g (vB false) rfl (Lw.nil ?_)))
     cases hm
     exact Cw.ret (ret1 rfl (Res.mk a27 rfl))
    ·replace hm := bf hm hc29
     refine Cw.skip (Cw.seq (Cw.region (Lw.m v0_ rfl (Lw.m (vI y6) rfl ?_))))
     obtain ⟨q30, e31, hm⟩ := ob hm
     have r34 := (h0.ul a27).cutV e31
     refine Lw.r rfl (R.sl (h0.ul a27) e31 rfl (.inl ⟨rfl, rfl⟩) (.inr rfl)) (Lw.ln q30 r34 rfl (Lw.m (vI 0) rfl (Lw.nil (Cw.block ?_))))
     obtain ⟨K39, hK39, hm⟩ := jn_e hm
     refine Cw.loop 46 55 [2, 6, 46] (fun m l w => ∃ (y35 : Bool) (y37 : Int) (j36 : Value) (W38 : CW), W38.w = w ∧ Le [3] W25 W38 ∧ l = [vB y35, j36, vI y37] ∧ Vm.impl_TreeOk_l2 u12 q30 K39 m y35 y37 = some r) (((q30.length : Int) - 0).toNat + 1) ⟨y2, 0, j5, W25, rfl, Le.refl _ _, rfl, hm⟩ ?_
     rintro m40 _ _ σ ⟨y35, y37, j36, W38, rfl, l38, rfl, hm⟩
     obtain _ | m40 := m40
     ·cases hm
     unfold Vm.impl_TreeOk_l2 at hm
     have a41 := l38.s rfl
     refine Cw.seq (Cw.region (Lw.lt rfl (Lw.nil (Cw.seq (Cw.cond (b := decide ((y37 : Int) < ((q30.length : Int) : Int))) rfl (fun hc43 => ?_) (fun hc43 => ?_))))))
     ·replace hm := bt hm hc43
      refine Cw.skip (Cw.seq (Cw.block (Cw.seq (Cw.region ?_))))
      obtain ⟨u44, e45, hm⟩ := ob hm
      refine Lw.r rfl (R.ix (α := File) (r34.ul a41) e45 rfl rfl rfl) ?_
      obtain ⟨x47, c48, _, r49⟩ := ((r34.ul a41).at_ e45).cells
      obtain ⟨v50, rfl, r51⟩ := File.split r49
      refine Lw.r rfl (R.lda c48 rfl rfl) (Lw.t rfl (T.alloc 3 (cs := [vS ([] : Str), .slice none 0 0]) rfl) ?_)
      rintro _ _ ⟨g52, W52, rfl, rfl, l52, b52⟩
      have a53 := (a27.trans a41).n l52
      refine Lw.u (T.sta (vs := [vS u44.Path, v50]) b52 rfl rfl (oc_cons rfl (oc_cons r51.oc oc_nil)) rfl rfl) ?_
      rintro _ _ ⟨W55, rfl, l55, b55⟩
      have a56 := a53.t l55 rfl
      refine Lw.nil (Cw.seq (Cw.region (Lw.fa rfl (Lw.r rfl (R.ld (v := vS u44.Path) rfl rfl (b55.cell rfl)) (Lw.fa rfl (Lw.r rfl (R.ld (v := vS u12.Path) rfl rfl (((((b22.up l25 rfl).up l38 rfl).up l52 rfl).up l55 rfl).cell rfl)) ?_))))))
      obtain ⟨z59, e60, hm⟩ := ob hm
      refine Lw.t rfl (T.call rfl (p36 (K := [0])  (h99.ul a56) e60)) ?_
      rintro _ _ ⟨W61, rfl, l61, rfl⟩
      have a62 := a56.n l61
      refine Lw.nil (Cw.cond (b := z59) rfl (fun hc65 => ?_) (fun hc65 => ?_))
      ·replace hm := bt hm hc65
       refine Cw.seq (Cw.region (Lw.g (vB false) rfl (Lw.nil ?_)))
       cases hm
       exact Cw.ret (ret1 rfl (Res.mk a62 rfl))
      ·replace hm := bf hm hc65
       refine Cw.skip (Cw.region (Lw.add rfl (Lw.m (vI (w64 (y37 + 1))) rfl (Lw.nil (⟨?_, m40, Nat.lt_succ_self m40, ⟨y35, w64 (y37 + 1), ptr (bx g52), W61, rfl, (l38.trans ((l52.sub rfl).trans (l55.trans (l61.sub rfl)))), rfl, hm⟩⟩)))))
       iterate 14 (refine .u ?_)
       exact Agree.base
     ·replace hm := bf hm hc43
      refine Cw.exit ?_
      rw [hK39] at hm
      refine Cw.region (Lw.add rfl (Lw.m (vI (w64 (y6 + 1))) rfl (Lw.nil (⟨?_, m9, Nat.lt_succ_self m9, ⟨y35, w64 (y6 + 1), vI y6, ptr (bx g20), j36, W38, rfl, (l7.trans ((l20.sub rfl).trans ((l22.sub rfl).trans ((l25.sub rfl).trans (l38.sub rfl))))), rfl, hm⟩⟩))))
      iterate 6 (refine .u ?_)
      refine Agree.ov0 rfl ?_
      iterate 6 (refine .u ?_)
      refine Agree.ov0 rfl ?_
      iterate 11 (refine .u ?_)
      exact Agree.base
   ·refine Cw.draw [] [(0, 0), (1, 1), (2, 2), (3, 0), (4, 0), (5, 0), (6, 1), (7, 2), (8, 0), (9, 0), (10, 0), (11, 0), (12, 0), (13, 0), (14, 0), (15, 0), (16, 0), (17, 0), (18, 0), (19, 1), (20, 0), (21, 1), (22, 0), (23, 0), (24, 0)] mixed (by kernel_rfl) fun W66 l66 => ?_
    have a67 := l66.o
    have b68 := b22.up l66 rfl
    refine Mw.p rfl rfl (fun _ => R.fa rfl) (Mw.q rfl rfl (fun _ c => R.ld (v := v18) rfl rfl (b68.clc rfl rfl c)) ?_)
    obtain ⟨z70, e71, hm⟩ := ob hm
    refine Mw.t rfl rfl (T.call rfl (p34 (K := [0])  (r19.ul ((a21.trans a23).trans a67)) e71)) ?_
    rintro _ _ ⟨W72, rfl, l72, rfl⟩
    have a73 := (((a10.trans a21).trans a23).trans a67).n l72
    refine ⟨⟨_, rfl, (l72.sub (M := []) rfl)⟩, ?_⟩
    refine Mw.p rfl rfl (fun _ => R.not rfl) (Mw.p rfl rfl (fun _ => R.mv (v := vB (!z70)) rfl) (bsplit (!z70) (fun hc75 => ?_) (fun hc75 => ?_)))
    ·replace hm := bt hm hc75
     refine Mw.ps hc75 rfl rfl (Mw.ps hc75 rfl rfl (Mw.ps hc75 rfl rfl (Mw.ps hc75 rfl rfl (Mw.p rfl rfl (fun _ => R.pk hc75 rfl (v := vB true) rfl) (Mw.p rfl rfl (fun _ => R.mv (v := vB true) rfl) (Mw.ps rfl rfl rfl (Mw.ps rfl rfl rfl (Mw.ps rfl rfl rfl (Mw.pu rfl rfl (Mw.pu rfl rfl (Mw.pu rfl rfl (Mw.pu rfl rfl (Mw.pu rfl rfl (Mw.pu rfl rfl (Mw.pu rfl rfl (Mw.pu rfl rfl (Mw.pu rfl rfl (Mw.ps rfl rfl rfl (Mw.p rfl rfl (fun _ => R.pk rfl rfl (v := vB true) rfl) (Mw.nil (⟨?_, ⟨true, W72, rfl, (l66.trans l72), rfl, hm⟩⟩)))))))))))))))))))))
     iterate 25 (refine .u ?_)
     exact Agree.refl _
    ·replace hm := bf hm hc75
     refine Mw.gp hc75 rfl rfl rfl rfl rfl (fun _ => R.fa rfl) (Mw.gq hc75 rfl rfl rfl rfl rfl (fun _ c => R.ld (v := vS u12.Path) rfl rfl (b68.clc rfl rfl c)) ?_)
     obtain ⟨z77, e78, hm⟩ := ob hm
     refine Mw.gt hc75 rfl rfl rfl rfl rfl (T.call rfl (p35 (K := [0])  (h99.ul a73) e78)) ?_
     rintro _ _ ⟨W79, rfl, l79, rfl⟩
     refine ⟨⟨_, rfl, ((l72.sub (M := []) rfl).trans (l79.sub (M := []) rfl))⟩, ?_⟩
     refine Mw.gp hc75 rfl rfl rfl rfl rfl (fun _ => R.not rfl) (Mw.p rfl rfl (fun _ => R.pk hc75 rfl (v := vB (!z77)) rfl) (Mw.p rfl rfl (fun _ => R.mv (v := vB (!z77)) rfl) (bsplit (!z77) (fun hc82 => ?_) (fun hc82 => ?_))))
     ·replace hm := bt hm hc82
      refine Mw.ps hc82 rfl rfl (Mw.ps hc82 rfl rfl (Mw.ps hc82 rfl rfl (Mw.pu rfl rfl (Mw.pu rfl rfl (Mw.pu rfl rfl (Mw.pu rfl rfl (Mw.pu rfl rfl (Mw.pu rfl rfl (Mw.pu rfl rfl (Mw.pu rfl rfl (Mw.pu rfl rfl (Mw.ps hc82 rfl rfl (Mw.p rfl rfl (fun _ => R.pk hc82 rfl (v := vB true) rfl) (Mw.nil (⟨?_, ⟨true, W79, rfl, (l66.trans (l72.trans l79)), rfl, hm⟩⟩)))))))))))))))
      iterate 25 (refine .u ?_)
      exact Agree.refl _
     ·replace hm := bf hm hc82
      refine Mw.gp hc82 rfl rfl rfl rfl rfl (fun _ => R.mv (v := vI y6) rfl) (Mw.gp hc82 rfl rfl rfl rfl rfl (fun _ => R.gt rfl rfl) (Mw.gp hc82 rfl rfl rfl rfl rfl (fun _ => R.mv (v := vB (decide ((0 : Int) < (y6 : Int)))) rfl) (bsplit (decide ((0 : Int) < (y6 : Int))) (fun hc83 => ?_) (fun hc83 => ?_))))
      ·replace hm := bt hm hc83
       refine Mw.gp hc83 rfl rfl rfl rfl rfl (fun _ => R.mv (v := v0_) rfl) (Mw.gp hc83 rfl rfl rfl rfl rfl (fun _ => R.mv (v := vI y6) rfl) (Mw.gp hc83 rfl rfl rfl rfl rfl (fun _ => R.sub rfl rfl) ?_))
       obtain ⟨u84, e85, hm⟩ := ob hm
       have s86 := h0.ul (((a10.trans a21).trans a23).trans a67)
       refine Mw.gp hc83 rfl rfl rfl rfl rfl (fun _ => R.ix (α := File) s86 e85 rfl rfl rfl) (Mw.gp hc83 rfl rfl rfl rfl rfl (fun _ => R.fa rfl) (Mw.gq hc83 rfl rfl rfl rfl rfl (fun _ c => R.ld rfl rfl (cl_cell (File.at0 (s86.at_ e85)).1 rfl (File.at0 (s86.at_ e85)).str c)) (Mw.gp hc83 rfl rfl rfl rfl rfl (fun _ => R.fa rfl) (Mw.gq hc83 rfl rfl rfl rfl rfl (fun _ c => R.ld (v := vS u12.Path) rfl rfl (b68.clc rfl rfl c)) (Mw.gp hc83 rfl rfl rfl rfl rfl (fun _ => R.sge rfl rfl) (Mw.gp hc82 rfl rfl rfl rfl rfl (fun _ => R.pk hc83 rfl (v := vB (!Op.bytesLess u84.Path u12.Path)) rfl) (Mw.p rfl rfl (fun _ => R.pk hc82 rfl (v := vB (!Op.bytesLess u84.Path u12.Path)) rfl) (Mw.nil (⟨?_, ⟨(!Op.bytesLess u84.Path u12.Path), W79, rfl, (l66.trans (l72.trans l79)), rfl, hm⟩⟩)))))))))
       iterate 25 (refine .u ?_)
       exact Agree.refl _
      ·replace hm := bf hm hc83
       refine Mw.ps hc83 rfl rfl (Mw.ps hc83 rfl rfl (Mw.ps hc83 rfl rfl (Mw.ps hc83 rfl rfl (Mw.ps hc83 rfl rfl (Mw.ps hc83 rfl rfl (Mw.ps hc83 rfl rfl (Mw.ps hc83 rfl rfl (Mw.ps hc83 rfl rfl (Mw.gp hc82 rfl rfl rfl rfl rfl (fun _ => R.pk hc83 rfl (v := vB false) rfl) (Mw.p rfl rfl (fun _ => R.pk hc82 rfl (v := vB false) rfl) (Mw.nil (⟨?_, ⟨false, W79, rfl, (l66.trans (l72.trans l79)), rfl, hm⟩⟩))))))))))))
       iterate 25 (refine .u ?_)
       exact Agree.refl _
  ·replace hm := bf hm hc11
   refine Cw.exit ?_
   rw [hK8] at hm
   refine Cw.seq (Cw.region (Lw.g (vB true) rfl (Lw.nil ?_)))
   cases hm
   exact Cw.ret (ret1 rfl (Res.mk a10 rfl))

theorem p11 {W : CW} {K : List Nat} {x0 : List Vm.File} {v0_ : Value} {r : Bool} (h0 : Rd W K [v0_] x0) (h99 : Gl 0 W K) (hm : Vm.impl_TreeOk x0 = some r) : CallR Tryz.prog 11 [v0_].toArray W.w (Res W [] fun W' v => v = vB r) :=
 (c11 (V := W.view K []) (h0.view _) (h99.view _) hm).ad (fk 0) fun _ _ e => e

theorem c27 {V : CW} {x0 : Vm.Repo} {v0_0_ : Value} {v0_1_ : Value} {x1 : Int} {r : Bool} (h0 : Rd V [0] [v0_0_, v0_1_] x0) (hm : Vm.impl_Repo_exists x0 x1 = some r) : CallR Tryz.prog 27 [.agg [v0_0_, v0_1_].toArray, vI x1].toArray V.w (Res V LL fun Wf v => v = vB r) := by
 unfold Vm.impl_Repo_exists at hm
 obtain ⟨w0_0, w0_1, he0, h0_0, h0_1⟩ := Repo.split h0
 simp only [List.cons.injEq, and_true, true_and] at he0
 obtain ⟨rfl, rfl⟩ := he0
 obtain ⟨W0, hW0⟩ : ∃ W, W = V := ⟨V, rfl⟩
 subst hW0
 refine CallR.of Tryz.func27 rfl rfl rfl rfl (Cw.seq (Cw.region (Lw.t rfl (T.box 2 (v := .agg [v0_0_, v0_1_].toArray) (cs := [v0_0_, v0_1_]) rfl rfl) ?_)))
 rintro _ _ ⟨g1, W1, rfl, rfl, l1, b1⟩
 have a2 := l1.o
 refine Lw.g (vB false) rfl (Lw.nil (Cw.seq (Cw.region (Lw.m (vI x1) rfl (Lw.fa rfl (Lw.r rfl (R.ld (v := v0_0_) rfl rfl (b1.cell rfl)) (Lw.ln x0.Commits (h0_0.ul a2) rfl (Lw.sub rfl ?_))))))))
 obtain ⟨z4, e5, hm⟩ := ob hm
 refine Lw.t rfl (T.call rfl (p42 (K := [0])   e5)) ?_
 rintro _ _ ⟨W6, rfl, l6, rfl⟩
 have a7 := a2.n l6
 refine Lw.g (vB z4) rfl (Lw.nil ?_)
 cases hm
 exact Cw.ret (ret1 rfl (Res.mk a7 rfl))

theorem p27 {W : CW} {K : List Nat} {x0 : Vm.Repo} {v0_0_ : Value} {v0_1_ : Value} {x1 : Int} {r : Bool} (h0 : Rd W K [v0_0_, v0_1_] x0) (hm : Vm.impl_Repo_exists x0 x1 = some r) : CallR Tryz.prog 27 [.agg [v0_0_, v0_1_].toArray, vI x1].toArray W.w (Res W [] fun W' v => v = vB r) :=
 (c27 (V := W.view K []) (h0.view _) hm).ad (fk 0) fun _ _ e => e

theorem c43 {V : CW} {x0 : Vm.Repo} {v0_0_ : Value} {v0_1_ : Value} {x1 : List Vm.Head} {v1_ : Value} {r : Bool} (h0 : Rd V [0] [v0_0_, v0_1_] x0) (h1 : Rd V [0] [v1_] x1) (hm : Vm.impl_headsOk x0 x1 = some r) : CallR Tryz.prog 43 [.agg [v0_0_, v0_1_].toArray, v1_].toArray V.w (Res V LL fun Wf v => v = vB r) := by
 unfold Vm.impl_headsOk at hm
 obtain ⟨w0_0, w0_1, he0, h0_0, h0_1⟩ := Repo.split h0
 simp only [List.cons.injEq, and_true, true_and] at he0
 obtain ⟨rfl, rfl⟩ := he0
 obtain ⟨W0, hW0⟩ : ∃ W, W = V := ⟨V, rfl⟩
 subst hW0
 refine CallR.of Tryz.func43 rfl rfl rfl rfl (Cw.seq (Cw.region (Lw.t rfl (T.box 2 (v := .agg [v0_0_, v0_1_].toArray) (cs := [v0_0_, v0_1_]) rfl rfl) ?_)))
 rintro _ _ ⟨g1, W1, rfl, rfl, l1, b1⟩
 have a2 := l1.o
 refine Lw.g (vB false) rfl (Lw.nil (Cw.seq (Cw.seq (Cw.region (Lw.m v1_ rfl (Lw.ln x1 (h1.ul a2) rfl (Lw.gt rfl (Lw.nil (Cw.cond (b := decide ((5 : Int) < ((x1.length : Int) : Int))) rfl (fun hc4 => ?_) (fun hc4 => ?_))))))))))
 ·replace hm := bt hm hc4
  refine Cw.seq (Cw.region (Lw.g (vB false) rfl (Lw.nil ?_)))
  cases hm
  exact Cw.ret (ret1 rfl (Res.mk a2 rfl))
 ·replace hm := bf hm hc4
  refine Cw.skip (Cw.seq (Cw.seq (Cw.region (Lw.m v1_ rfl (Lw.ln x1 (h1.ul a2) rfl (Lw.m (vI 0) rfl (Lw.nil (Cw.block ?_))))))))
  obtain ⟨K10, hK10, hm⟩ := jn_e hm
  refine Cw.loop 12 43 [4, 5, 6, 12] (fun m l w => ∃ (y5 : Bool) (y8 : Int) (j6 j7 : Value) (W9 : CW), W9.w = w ∧ Le [3] W1 W9 ∧ l = [vB y5, j6, j7, vI y8] ∧ Vm.impl_headsOk_l1 x0 x1 K10 m y5 y8 = some r) (((x1.length : Int) - 0).toNat + 1) ⟨false, 0, undef, undef, W1, rfl, Le.refl _ _, rfl, hm⟩ ?_
  rintro m11 _ _ σ ⟨y5, y8, j6, j7, W9, rfl, l9, rfl, hm⟩
  obtain _ | m11 := m11
  ·cases hm
  unfold Vm.impl_headsOk_l1 at hm
  have a12 := a2.t l9 rfl
  refine Cw.seq (Cw.region (Lw.lt rfl (Lw.nil (Cw.seq (Cw.cond (b := decide ((y8 : Int) < ((x1.length : Int) : Int))) rfl (fun hc14 => ?_) (fun hc14 => ?_))))))
  ·replace hm := bt hm hc14
   refine Cw.skip (Cw.seq (Cw.block (Cw.seq (Cw.region (Lw.m (vI y8) rfl ?_)))))
   obtain ⟨u15, e16, hm⟩ := ob hm
   refine Lw.r rfl (R.ix (α := Head) (h1.ul a12) e16 rfl rfl rfl) ?_
   obtain ⟨x18, c19, _, r20⟩ := ((h1.ul a12).at_ e16).cells
   obtain rfl := Head.split r20
   refine Lw.r rfl (R.lda c19 rfl rfl) (Lw.t rfl (T.alloc 3 (cs := [vS ([] : Str), vI 0]) rfl) ?_)
   rintro _ _ ⟨g21, W21, rfl, rfl, l21, b21⟩
   have a22 := a12.n l21
   refine Lw.g (vI y8) rfl (Lw.u (T.sta (vs := [vS u15.Name, vI u15.At]) b21 rfl rfl (oc_cons rfl (oc_cons rfl oc_nil)) rfl rfl) ?_)
   rintro _ _ ⟨W24, rfl, l24, b24⟩
   have a25 := a22.t l24 rfl
   refine Lw.nil ?_
   obtain ⟨K29, hK29, hm⟩ := jn_e hm
   refine Cw.join 17 42 [42] (fun l w => ∃ (y27 : Bool) (W28 : CW), W28.w = w ∧ Le [] W24 W28 ∧ l = [vB y27] ∧ K29 y27 = some r) ?_ ?_
   ·rintro _ _ σ ⟨y27, W28, rfl, l28, rfl, hm⟩
    rw [hK29] at hm
    have a30 := a25.n l28
    refine Cw.cond (b := y27) rfl (fun hc33 => ?_) (fun hc33 => ?_)
    ·replace hm := bt hm hc33
     refine Cw.seq (Cw.region (Lw.g (vB false) rfl (Lw.nil ?_)))
     cases hm
     exact Cw.ret (ret1 rfl (Res.mk a30 rfl))
    ·replace hm := bf hm hc33
     refine Cw.skip (Cw.region (Lw.add rfl (Lw.m (vI (w64 (y8 + 1))) rfl (Lw.nil (⟨?_, m11, Nat.lt_succ_self m11, ⟨y5, w64 (y8 + 1), vI y8, ptr (bx g21), W28, rfl, (l9.trans ((l21.sub rfl).trans (l24.trans (l28.sub rfl)))), rfl, hm⟩⟩)))))
     iterate 3 (refine .u ?_)
     refine Agree.ov0 rfl ?_
     iterate 10 (refine .u ?_)
     exact Agree.base
   ·refine Cw.draw [] [(0, 0), (1, 1), (2, 2), (3, 0), (4, 0), (5, 1), (6, 0), (7, 1), (8, 2), (9, 0), (10, 0), (11, 0), (12, 0), (13, 0), (14, 0), (15, 0), (16, 0), (17, 0), (18, 0), (19, 0), (20, 1), (21, 0), (22, 1), (23, 0), (24, 0), (25, 0)] mixed (by kernel_rfl) fun W34 l34 => ?_
    have a35 := a25.n l34
    have b37 := b24.up l34 rfl
    refine Mw.p rfl rfl (fun _ => R.fa rfl) (Mw.q rfl rfl (fun _ c => R.ld (v := vS u15.Name) rfl rfl (b37.clc rfl rfl c)) ?_)
    obtain ⟨z38, e39, hm⟩ := ob hm
    refine Mw.t rfl rfl (T.call rfl (p41 (K := [0])   e39)) ?_
    rintro _ _ ⟨W40, rfl, l40, rfl⟩
    have a41 := a35.n l40
    refine ⟨⟨_, rfl, (l40.sub (M := []) rfl)⟩, ?_⟩
    refine Mw.p rfl rfl (fun _ => R.not rfl) (Mw.p rfl rfl (fun _ => R.mv (v := vB (!z38)) rfl) (bsplit (!z38) (fun hc44 => ?_) (fun hc44 => ?_)))
    ·replace hm := bt hm hc44
     refine Mw.ps hc44 rfl rfl (Mw.ps hc44 rfl rfl (Mw.ps hc44 rfl rfl (Mw.ps hc44 rfl rfl (Mw.ps hc44 rfl rfl (Mw.p rfl rfl (fun _ => R.pk hc44 rfl (v := vB true) rfl) (Mw.p rfl rfl (fun _ => R.mv (v := vB true) rfl) (Mw.ps rfl rfl rfl (Mw.ps rfl rfl rfl (Mw.ps rfl rfl rfl (Mw.pu rfl rfl (Mw.pu rfl rfl (Mw.pu rfl rfl (Mw.pu rfl rfl (Mw.pu rfl rfl (Mw.pu rfl rfl (Mw.pu rfl rfl (Mw.pu rfl rfl (Mw.pu rfl rfl (Mw.ps rfl rfl rfl (Mw.p rfl rfl (fun _ => R.pk rfl rfl (v := vB true) rfl) (Mw.nil (⟨?_, ⟨true, W40, rfl, (l34.trans l40), rfl, hm⟩⟩))))))))))))))))))))))
     iterate 26 (refine .u ?_)
     exact Agree.refl _
    ·replace hm := bf hm hc44
     refine Mw.gq hc44 rfl rfl rfl rfl rfl (fun _ c => R.lda (cs := [v0_0_, v0_1_]) (((((b1.up l9 rfl).up l21 rfl).up l24 rfl).up l34 rfl).clcs rfl c) rfl rfl) (Mw.gp hc44 rfl rfl rfl rfl rfl (fun _ => R.fa rfl) (Mw.gq hc44 rfl rfl rfl rfl rfl (fun _ c => R.ld (v := vI u15.At) rfl rfl (b37.clc rfl rfl c)) ?_))
     obtain ⟨z47, e48, hm⟩ := ob hm
     refine Mw.gt hc44 rfl rfl rfl rfl rfl (T.call rfl (p27 (K := [0])  (Repo.rd (K := [0]) x0.Commits x0.Heads (h0_0.ul a41) (h0_1.ul a41)) e48)) ?_
     rintro _ _ ⟨W49, rfl, l49, rfl⟩
     refine ⟨⟨_, rfl, ((l40.sub (M := []) rfl).trans (l49.sub (M := []) rfl))⟩, ?_⟩
     refine Mw.gp hc44 rfl rfl rfl rfl rfl (fun _ => R.not rfl) (Mw.p rfl rfl (fun _ => R.pk hc44 rfl (v := vB (!z47)) rfl) (Mw.p rfl rfl (fun _ => R.mv (v := vB (!z47)) rfl) (bsplit (!z47) (fun hc53 => ?_) (fun hc53 => ?_))))
     ·replace hm := bt hm hc53
      refine Mw.ps hc53 rfl rfl (Mw.ps hc53 rfl rfl (Mw.ps hc53 rfl rfl (Mw.pu rfl rfl (Mw.pu rfl rfl (Mw.pu rfl rfl (Mw.pu rfl rfl (Mw.pu rfl rfl (Mw.pu rfl rfl (Mw.pu rfl rfl (Mw.pu rfl rfl (Mw.pu rfl rfl (Mw.ps hc53 rfl rfl (Mw.p rfl rfl (fun _ => R.pk hc53 rfl (v := vB true) rfl) (Mw.nil (⟨?_, ⟨true, W49, rfl, (l34.trans (l40.trans l49)), rfl, hm⟩⟩)))))))))))))))
      iterate 26 (refine .u ?_)
      exact Agree.refl _
     ·replace hm := bf hm hc53
      refine Mw.gp hc53 rfl rfl rfl rfl rfl (fun _ => R.mv (v := vI y8) rfl) (Mw.gp hc53 rfl rfl rfl rfl rfl (fun _ => R.gt rfl rfl) (Mw.gp hc53 rfl rfl rfl rfl rfl (fun _ => R.mv (v := vB (decide ((0 : Int) < (y8 : Int)))) rfl) (bsplit (decide ((0 : Int) < (y8 : Int))) (fun hc54 => ?_) (fun hc54 => ?_))))
      ·replace hm := bt hm hc54
       refine Mw.gp hc54 rfl rfl rfl rfl rfl (fun _ => R.mv (v := v1_) rfl) (Mw.gp hc54 rfl rfl rfl rfl rfl (fun _ => R.mv (v := vI y8) rfl) (Mw.gp hc54 rfl rfl rfl rfl rfl (fun _ => R.sub rfl rfl) ?_))
       obtain ⟨u55, e56, hm⟩ := ob hm
       refine Mw.gp hc54 rfl rfl rfl rfl rfl (fun _ => R.ix (α := Head) (h1.ul a35) e56 rfl rfl rfl) (Mw.gp hc54 rfl rfl rfl rfl rfl (fun _ => R.fa rfl) (Mw.gq hc54 rfl rfl rfl rfl rfl (fun _ c => R.ld rfl rfl (cl_cell (Head.at0 ((h1.ul a35).at_ e56)).1 rfl (Head.at0 ((h1.ul a35).at_ e56)).str c)) (Mw.gp hc54 rfl rfl rfl rfl rfl (fun _ => R.fa rfl) (Mw.gq hc54 rfl rfl rfl rfl rfl (fun _ c => R.ld (v := vS u15.Name) rfl rfl (b37.clc rfl rfl c)) (Mw.gp hc54 rfl rfl rfl rfl rfl (fun _ => R.sge rfl rfl) (Mw.gp hc53 rfl rfl rfl rfl rfl (fun _ => R.pk hc54 rfl (v := vB (!Op.bytesLess u55.Name u15.Name)) rfl) (Mw.p rfl rfl (fun _ => R.pk hc53 rfl (v := vB (!Op.bytesLess u55.Name u15.Name)) rfl) (Mw.nil (⟨?_, ⟨(!Op.bytesLess u55.Name u15.Name), W49, rfl, (l34.trans (l40.trans l49)), rfl, hm⟩⟩)))))))))
       iterate 26 (refine .u ?_)
       exact Agree.refl _
      ·replace hm := bf hm hc54
       refine Mw.ps hc54 rfl rfl (Mw.ps hc54 rfl rfl (Mw.ps hc54 rfl rfl (Mw.ps hc54 rfl rfl (Mw.ps hc54 rfl rfl (Mw.ps hc54 rfl rfl (Mw.ps hc54 rfl rfl (Mw.ps hc54 rfl rfl (Mw.ps hc54 rfl rfl (Mw.gp hc53 rfl rfl rfl rfl rfl (fun _ => R.pk hc54 rfl (v := vB false) rfl) (Mw.p rfl rfl (fun _ => R.pk hc53 rfl (v := vB false) rfl) (Mw.nil (⟨?_, ⟨false, W49, rfl, (l34.trans (l40.trans l49)), rfl, hm⟩⟩))))))))))))
       iterate 26 (refine .u ?_)
       exact Agree.refl _
  ·replace hm := bf hm hc14
   refine Cw.exit ?_
   rw [hK10] at hm
   refine Cw.seq (Cw.region (Lw.g (vB true) rfl (Lw.nil ?_)))
   cases hm
   exact Cw.ret (ret1 rfl (Res.mk a12 rfl))

theorem p43 {W : CW} {K : List Nat} {x0 : Vm.Repo} {v0_0_ : Value} {v0_1_ : Value} {x1 : List Vm.Head} {v1_ : Value} {r : Bool} (h0 : Rd W K [v0_0_, v0_1_] x0) (h1 : Rd W K [v1_] x1) (hm : Vm.impl_headsOk x0 x1 = some r) : CallR Tryz.prog 43 [.agg [v0_0_, v0_1_].toArray, v1_].toArray W.w (Res W [] fun W' v => v = vB r) :=
 (c43 (V := W.view K []) (h0.view _) (h1.view _) hm).ad (fk 0) fun _ _ e => e

end Go.Sx
