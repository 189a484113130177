/- Walks: each function answers as its model, printed by a program of ours. Conditions: the arguments read as they are given. -/
import Derived.Test.YtjdljoplpcakpaaDoorXTs
import Derived.Test.YtjdljoplpcakpaaDoorXMd
namespace Go.Sx
open Go Go.Proofs Go.Vm Rp
set_option linter.unusedVariables false
set_option linter.unusedSimpArgs false

theorem c15 {V : CW} {x0 : Vm.Owner} {x1 : Int} {r : Int} (h0 : Rd V [0] [vS x0.Path, vS x0.Who] x0) (hm : Vm.laws_szOwner x0 x1 = some r) : CallR Tryd.prog 15 [.agg [vS x0.Path, vS x0.Who].toArray, vI x1].toArray V.w (Res V LL fun Wf v => v = vI r) := by
 unfold Vm.laws_szOwner at hm
 obtain ⟨W0, hW0⟩ : ∃ W, W = V := ⟨V, rfl⟩
 subst hW0
 refine CallR.of Tryd.func15 rfl rfl rfl rfl (Cw.seq (Cw.region (Lw.t rfl (T.box 2 (v := .agg [vS x0.Path, vS x0.Who].toArray) (cs := [vS x0.Path, vS x0.Who]) rfl rfl) ?_)))
 rintro _ _ ⟨g1, W1, rfl, rfl, l1, b1⟩
 have a2 := l1.o
 refine Lw.g (vI 0) rfl (Lw.nil (Cw.seq (Cw.region (Lw.m (vI x1) rfl (Lw.fa rfl (Lw.r rfl (R.ld (v := vS x0.Path) rfl rfl (b1.cell rfl)) (Lw.r rfl (R.lenS rfl) (Lw.sub rfl (Lw.g (vI (w64 (x1 - (x0.Path.length : Int)))) rfl (Lw.nil (Cw.seq (Cw.seq (Cw.region (Lw.m (vI (w64 (x1 - (x0.Path.length : Int)))) rfl (Lw.lt rfl (Lw.nil (Cw.cond (b := decide ((w64 (x1 - (x0.Path.length : Int)) : Int) < (0 : Int))) rfl (fun hc3 => ?_) (fun hc3 => ?_))))))))))))))))))
 ·replace hm := bt hm hc3
  refine Cw.seq (Cw.region (Lw.g (vI (-1)) rfl (Lw.nil ?_)))
  cases hm
  exact Cw.ret (ret1 rfl (Res.mk a2 rfl))
 ·replace hm := bf hm hc3
  refine Cw.skip (Cw.seq (Cw.region (Lw.m (vI (w64 (x1 - (x0.Path.length : Int)))) rfl (Lw.fa rfl (Lw.r rfl (R.ld (v := vS x0.Who) rfl rfl (b1.cell rfl)) (Lw.r rfl (R.lenS rfl) (Lw.sub rfl (Lw.g (vI (w64 ((w64 (x1 - (x0.Path.length : Int))) - (x0.Who.length : Int)))) rfl (Lw.nil (Cw.seq (Cw.seq (Cw.region (Lw.m (vI (w64 ((w64 (x1 - (x0.Path.length : Int))) - (x0.Who.length : Int)))) rfl (Lw.lt rfl (Lw.nil (Cw.cond (b := decide ((w64 ((w64 (x1 - (x0.Path.length : Int))) - (x0.Who.length : Int)) : Int) < (0 : Int))) rfl (fun hc4 => ?_) (fun hc4 => ?_)))))))))))))))))
  ·replace hm := bt hm hc4
   refine Cw.seq (Cw.region (Lw.g (vI (-1)) rfl (Lw.nil ?_)))
   cases hm
   exact Cw.ret (ret1 rfl (Res.mk a2 rfl))
  ·replace hm := bf hm hc4
   refine Cw.skip (Cw.seq (Cw.region (Lw.m (vI (w64 ((w64 (x1 - (x0.Path.length : Int))) - (x0.Who.length : Int)))) rfl (Lw.g (vI (w64 ((w64 (x1 - (x0.Path.length : Int))) - (x0.Who.length : Int)))) rfl (Lw.nil ?_)))))
   cases hm
   exact Cw.ret (ret1 rfl (Res.mk a2 rfl))

theorem p15 {W : CW} {K : List Nat} {x0 : Vm.Owner} {x1 : Int} {r : Int} (h0 : Rd W K [vS x0.Path, vS x0.Who] x0) (hm : Vm.laws_szOwner x0 x1 = some r) : CallR Tryd.prog 15 [.agg [vS x0.Path, vS x0.Who].toArray, vI x1].toArray W.w (Res W [] fun W' v => v = vI r) :=
 (c15 (V := W.view K []) (h0.view _) hm).ad (fk 0) fun _ _ e => e

theorem c5 {V : CW} {x0 : List Vm.Owner} {v0_ : Value} {x1 : Int} {r : Int} (h0 : Rd V [0] [v0_] x0) (hm : Vm.laws_szOwnerS x0 x1 = some r) : CallR Tryd.prog 5 [v0_, vI x1].toArray V.w (Res V LL fun Wf v => v = vI r) := by
 unfold Vm.laws_szOwnerS at hm
 obtain ⟨W0, hW0⟩ : ∃ W, W = V := ⟨V, rfl⟩
 subst hW0
 refine CallR.of Tryd.func5 rfl rfl rfl rfl (Cw.seq (Cw.region (Lw.g (vI 0) rfl (Lw.nil (Cw.seq (Cw.region (Lw.m (vI x1) rfl (Lw.m v0_ rfl (Lw.ln x0 h0 rfl (Lw.sub rfl (Lw.g (vI (w64 (x1 - (x0.length : Int)))) rfl (Lw.nil (Cw.seq (Cw.seq (Cw.region (Lw.m (vI (w64 (x1 - (x0.length : Int)))) rfl (Lw.lt rfl (Lw.nil (Cw.cond (b := decide ((w64 (x1 - (x0.length : Int)) : Int) < (0 : Int))) rfl (fun hc1 => ?_) (fun hc1 => ?_))))))))))))))))))))
 ·replace hm := bt hm hc1
  refine Cw.seq (Cw.region (Lw.g (vI (-1)) rfl (Lw.nil ?_)))
  cases hm
  exact Cw.ret (ret1 rfl (Res.mk (Le.refl _ _) rfl))
 ·replace hm := bf hm hc1
  refine Cw.skip (Cw.seq (Cw.seq (Cw.region (Lw.g (vI 0) rfl (Lw.nil (Cw.block ?_))))))
  obtain ⟨K6, hK6, hm⟩ := jn_e hm
  refine Cw.loop 12 25 [1, 4, 5] (fun m l w => ∃ (y2 : Int) (y3 : Int) (y4 : Int) (W5 : CW), W5.w = w ∧ Le [] W0 W5 ∧ l = [vI y2, vI y3, vI y4] ∧ Vm.laws_szOwnerS_l1 x0 K6 m y2 y3 y4 = some r) (((x0.length : Int) - 0).toNat + 1) ⟨w64 (x1 - (x0.length : Int)), 0, 0, W0, rfl, Le.refl _ _, rfl, hm⟩ ?_
  rintro m7 _ _ σ ⟨y2, y3, y4, W5, rfl, l5, rfl, hm⟩
  obtain _ | m7 := m7
  ·cases hm
  unfold Vm.laws_szOwnerS_l1 at hm
  have a8 := l5.o
  refine Cw.seq (Cw.seq (Cw.region ?_))
  have s9 := h0.ul a8
  refine Lw.m (vI y4) rfl (Lw.m v0_ rfl (Lw.ln x0 s9 rfl (Lw.lt rfl (Lw.nil (Cw.cond (b := decide ((y4 : Int) < ((x0.length : Int) : Int))) rfl (fun hc10 => ?_) (fun hc10 => ?_))))))
  ·replace hm := bt hm hc10
   refine Cw.skip (Cw.seq (Cw.block (Cw.seq (Cw.region (Lw.m v0_ rfl (Lw.m (vI y4) rfl ?_))))))
   obtain ⟨u11, e12, hm⟩ := ob hm
   refine Lw.r rfl (R.ix (α := Owner) s9 e12 rfl rfl rfl) ?_
   obtain ⟨x13, c14, _, r15⟩ := (s9.at_ e12).cells
   obtain rfl := Owner.split r15
   refine Lw.r rfl (R.lda c14 rfl rfl) (Lw.m (vI y2) rfl ?_)
   obtain ⟨z16, e17, hm⟩ := ob hm
   refine Lw.t rfl (T.call rfl (p15 (K := [0])  (Owner.rd (K := [0]) u11.Path u11.Who ) e17)) ?_
   rintro _ _ ⟨W18, rfl, l18, rfl⟩
   have a19 := a8.n l18
   refine Lw.g (vI z16) rfl (Lw.nil (Cw.seq (Cw.region (Lw.m (vI z16) rfl (Lw.lt rfl (Lw.nil (Cw.cond (b := decide ((z16 : Int) < (0 : Int))) rfl (fun hc20 => ?_) (fun hc20 => ?_))))))))
   ·replace hm := bt hm hc20
    refine Cw.seq (Cw.region (Lw.g (vI (-1)) rfl (Lw.nil ?_)))
    cases hm
    exact Cw.ret (ret1 rfl (Res.mk a19 rfl))
   ·replace hm := bf hm hc20
    refine Cw.skip (Cw.region (Lw.m (vI y4) rfl (Lw.add rfl (Lw.g (vI (w64 (y4 + 1))) rfl (Lw.nil (⟨?_, m7, Nat.lt_succ_self m7, ⟨z16, y3, w64 (y4 + 1), W18, rfl, (l5.trans l18), rfl, hm⟩⟩))))))
    iterate 16 (refine Agree.up rfl ?_)
    iterate 3 (refine Agree.up rfl ?_)
    exact Agree.base
  ·replace hm := bf hm hc10
   refine Cw.exit ?_
   rw [hK6] at hm
   refine Cw.seq (Cw.region (Lw.m (vI y2) rfl (Lw.g (vI y2) rfl (Lw.nil ?_))))
   cases hm
   exact Cw.ret (ret1 rfl (Res.mk a8 rfl))

theorem p5 {W : CW} {K : List Nat} {x0 : List Vm.Owner} {v0_ : Value} {x1 : Int} {r : Int} (h0 : Rd W K [v0_] x0) (hm : Vm.laws_szOwnerS x0 x1 = some r) : CallR Tryd.prog 5 [v0_, vI x1].toArray W.w (Res W [] fun W' v => v = vI r) :=
 (c5 (V := W.view K []) (h0.view _) hm).ad (fk 0) fun _ _ e => e

theorem c19 {V : CW} {x0 : Vm.Owner} {r : Vm.Owner} (h0 : Rd V [0] [vS x0.Path, vS x0.Who] x0) (hm : Vm.laws_toOwner x0 = some r) : CallR Tryd.prog 19 [.agg [vS x0.Path, vS x0.Who].toArray].toArray V.w (Res V LL fun Wf v => v = .agg [vS r.Path, vS r.Who].toArray) := by
 unfold Vm.laws_toOwner at hm
 obtain ⟨W0, hW0⟩ : ∃ W, W = V := ⟨V, rfl⟩
 subst hW0
 refine CallR.of Tryd.func19 rfl rfl rfl rfl (Cw.seq (Cw.region (Lw.t rfl (T.box 2 (v := .agg [vS x0.Path, vS x0.Who].toArray) (cs := [vS x0.Path, vS x0.Who]) rfl rfl) ?_)))
 rintro _ _ ⟨g1, W1, rfl, rfl, l1, b1⟩
 have a2 := l1.o
 refine Lw.t rfl (T.alloc 3 (cs := [vS ([] : Str), vS ([] : Str)]) rfl) ?_
 rintro _ _ ⟨g3, W3, rfl, rfl, l3, b3⟩
 have a4 := a2.n l3
 refine Lw.nil (Cw.seq (Cw.region (Lw.t rfl (T.alloc 4 (cs := [vS ([] : Str), vS ([] : Str)]) rfl) ?_)))
 rintro _ _ ⟨g6, W6, rfl, rfl, l6, b6⟩
 have a7 := a4.n l6
 have b8 := (b1.up l3 rfl).up l6 rfl
 refine Lw.nil (Cw.seq (Cw.region (Lw.fa rfl (Lw.r rfl (R.ld (v := vS x0.Path) rfl rfl (b8.cell rfl)) (Lw.fa rfl (Lw.u (T.st (j := 0) (v := vS x0.Path) b6 rfl rfl rfl rfl rfl) ?_))))))
 rintro _ _ ⟨W10, rfl, l10, b10⟩
 have a11 := a7.t l10 rfl
 refine Lw.nil (Cw.seq (Cw.region (Lw.fa rfl (Lw.r rfl (R.ld (v := vS x0.Who) rfl rfl ((b8.up l10 rfl).cell rfl)) (Lw.fa rfl (Lw.u (T.st (j := 1) (v := vS x0.Who) b10 rfl rfl rfl rfl rfl) ?_))))))
 rintro _ _ ⟨W14, rfl, l14, b14⟩
 have a15 := a11.t l14 rfl
 refine Lw.nil (Cw.seq (Cw.region (Lw.r rfl (R.lda (cs := [vS x0.Path, vS x0.Who]) b14.cells rfl rfl) (Lw.u (T.sta (vs := [vS x0.Path, vS x0.Who]) (((b3.up l6 rfl).up l10 rfl).up l14 rfl) rfl rfl (oc_cons rfl (oc_cons rfl oc_nil)) rfl rfl) ?_))))
 rintro _ _ ⟨W18, rfl, l18, b18⟩
 have a19 := a15.t l18 rfl
 refine Lw.nil ?_
 cases hm
 exact Cw.ret (retA1 rfl b18 (Res.mk a19 rfl))

theorem p19 {W : CW} {K : List Nat} {x0 : Vm.Owner} {r : Vm.Owner} (h0 : Rd W K [vS x0.Path, vS x0.Who] x0) (hm : Vm.laws_toOwner x0 = some r) : CallR Tryd.prog 19 [.agg [vS x0.Path, vS x0.Who].toArray].toArray W.w (Res W [] fun W' v => v = .agg [vS r.Path, vS r.Who].toArray) :=
 (c19 (V := W.view K []) (h0.view _) hm).ad (fk 0) fun _ _ e => e

theorem c7 {V : CW} {x0 : List Vm.Owner} {v0_ : Value} {r : (List Vm.Owner)} (h0 : Rd V [0] [v0_] x0) (hm : Vm.laws_toOwnerS x0 = some r) : CallR Tryd.prog 7 [v0_].toArray V.w (Res V LL fun Wf v => ∃ (u0 : Value), v = u0 ∧ OwS Wf LL [] [u0] r) := by
 unfold Vm.laws_toOwnerS at hm
 obtain ⟨W0, hW0⟩ : ∃ W, W = V := ⟨V, rfl⟩
 subst hW0
 refine CallR.of Tryd.func7 rfl rfl rfl rfl (Cw.seq (Cw.region (Lw.g (.slice none 0 0) rfl (Lw.nil (Cw.seq (Cw.region (Lw.m v0_ rfl (Lw.ln x0 h0 rfl ?_))))))))
 obtain ⟨q1, e2, hm⟩ := ob hm
 refine Lw.t rfl (T.mk (α := Owner) 2 [] (n := (x0.length : Int)) rfl rfl e2) ?_
 rintro v3 _ ⟨W3, rfl, l3, o3⟩
 have a4 := l3.o
 refine Lw.g v3 rfl (Lw.nil (Cw.seq (Cw.seq (Cw.region (Lw.g (vI 0) rfl (Lw.nil (Cw.block ?_)))))))
 obtain ⟨K9, hK9, hm⟩ := jn_e hm
 refine Cw.loop 8 21 [4] (fun m l w => ∃ (y5 : Int) (y6 : List Vm.Owner) (W8 : CW), W8.w = w ∧ Le [2] W3 W8 ∧ l = [vI y5] ∧ Ow W8 2 [] [v3] y6 ∧ Vm.laws_toOwnerS_l1 x0 K9 m y5 y6 = some r) (((x0.length : Int) - 0).toNat + 1) ⟨0, q1, W3, rfl, Le.refl _ _, rfl, o3, hm⟩ ?_
 rintro m10 _ _ σ ⟨y5, y6, W8, rfl, l8, rfl, o7, hm⟩
 obtain _ | m10 := m10
 ·cases hm
 unfold Vm.laws_toOwnerS_l1 at hm
 have a11 := a4.t l8 rfl
 refine Cw.seq (Cw.seq (Cw.region (Lw.m (vI y5) rfl (Lw.m v0_ rfl (Lw.ln x0 (h0.ul a11) rfl (Lw.lt rfl (Lw.nil (Cw.cond (b := decide ((y5 : Int) < ((x0.length : Int) : Int))) rfl (fun hc13 => ?_) (fun hc13 => ?_)))))))))
 ·replace hm := bt hm hc13
  refine Cw.skip (Cw.seq (Cw.block (Cw.region (Lw.m v3 rfl (Lw.m (vI y5) rfl (Lw.m v0_ rfl (Lw.m (vI y5) rfl ?_)))))))
  obtain ⟨u14, e15, hm⟩ := ob hm
  refine Lw.r rfl (R.ix (α := Owner) (h0.ul a11) e15 rfl rfl rfl) ?_
  obtain ⟨x16, c17, _, r18⟩ := ((h0.ul a11).at_ e15).cells
  obtain rfl := Owner.split r18
  refine Lw.r rfl (R.lda c17 rfl rfl) ?_
  obtain ⟨z19, e20, hm⟩ := ob hm
  refine Lw.t rfl (T.call rfl (p19 (K := [0])  (Owner.rd (K := [0]) u14.Path u14.Who ) e20)) ?_
  rintro _ _ ⟨W21, rfl, l21, rfl⟩
  obtain ⟨u24, e25, hm⟩ := ob hm
  refine Lw.r rfl (R.ix (α := Owner) (o7.up l21 rfl).rd e25 rfl rfl rfl) ?_
  obtain ⟨q27, e28, hm⟩ := ob hm
  refine Lw.u (T.stS (K' := []) (o7.up l21 rfl) (Owner.rd (K := []) z19.Path z19.Who) e28 rfl rfl rfl) ?_
  rintro _ _ ⟨W26, rfl, l26, o26⟩
  refine Lw.nil (Cw.region (Lw.m (vI y5) rfl (Lw.add rfl (Lw.g (vI (w64 (y5 + 1))) rfl (Lw.nil (⟨?_, m10, Nat.lt_succ_self m10, ⟨w64 (y5 + 1), q27, W26, rfl, (l8.trans ((l21.sub rfl).trans l26)), rfl, o26, hm⟩⟩))))))
  iterate 15 (refine Agree.up rfl ?_)
  iterate 1 (refine Agree.up rfl ?_)
  exact Agree.base
 ·replace hm := bf hm hc13
  refine Cw.exit ?_
  rw [hK9] at hm
  refine Cw.seq (Cw.region (Lw.m v3 rfl (Lw.g v3 rfl (Lw.nil ?_))))
  cases hm
  exact Cw.ret (ret1 rfl (Res.mk a11 ⟨v3, rfl, o7.s.sub rfl rfl⟩))

theorem p7 {W : CW} {K : List Nat} {x0 : List Vm.Owner} {v0_ : Value} {k0 : Nat} {r : (List Vm.Owner)} (h0 : Rd W K [v0_] x0) (hm : Vm.laws_toOwnerS x0 = some r) : CallR Tryd.prog 7 [v0_].toArray W.w (Res W [] fun W' v => ∃ (u0 : Value), v = u0 ∧ Ow W' k0 [] [u0] r) :=
 (c7 (V := W.view K []) (h0.view _) hm).ad (fk k0) fun _ _ ⟨u0, e, f0⟩ => ⟨u0, e, f0.back (fk_LL _)⟩

theorem c34 {V : CW} {x0 : Str} {x1 : Byte} {x2 : Int} {r : (List Str)}  (hm : Vm.spec_l1Cut x0 x1 x2 = some r) : CallR Tryd.prog 34 [vS x0, .int .u8 (UInt8.toNat x1 : Int), vI x2].toArray V.w (Res V LL fun Wf v => ∃ (u0 : Value), v = u0 ∧ OwS Wf LL [] [u0] r) := by
 unfold Vm.spec_l1Cut at hm
 obtain ⟨W0, hW0⟩ : ∃ W, W = V := ⟨V, rfl⟩
 subst hW0
 refine CallR.of Tryd.func34 rfl rfl rfl rfl (Cw.seq (Cw.region (Lw.g (.slice none 0 0) rfl (Lw.nil (Cw.seq (Cw.region (Lw.t rfl (T.lit0 (α := Str) 2 []) ?_)))))))
 rintro v1 _ ⟨W1, rfl, l1, o1⟩
 have a2 := l1.o
 refine Lw.g v1 rfl (Lw.nil (Cw.seq (Cw.region (Lw.g (vI 0) rfl (Lw.nil (Cw.seq (Cw.seq (Cw.region (Lw.g (vI 0) rfl (Lw.nil (Cw.block ?_)))))))))))
 obtain ⟨K9, hK9, hm⟩ := jn_e hm
 refine Cw.loop 11 36 [7, 8, 9] (fun m l w => ∃ (y3 : List Str) (y6 : Int) (y7 : Int) (v4 : Value) (W8 : CW), W8.w = w ∧ Le [2] W1 W8 ∧ l = [v4, vI y6, vI y7] ∧ Ow W8 2 [] [v4] y3 ∧ Vm.spec_l1Cut_l1 x0 x1 x2 K9 m y3 y6 y7 = some r) (x0.length + 1) ⟨([] : List Str), 0, 0, v1, W1, rfl, Le.refl _ _, rfl, o1, hm⟩ ?_
 rintro m10 _ _ σ ⟨y3, y6, y7, v4, W8, rfl, l8, rfl, o5, hm⟩
 obtain _ | m10 := m10
 ·cases hm
 unfold Vm.spec_l1Cut_l1 at hm
 have a11 := a2.t l8 rfl
 refine Cw.seq ?_
 obtain ⟨K14, hK14, hm⟩ := jn_e hm
 refine Cw.join 11 20 [20] (fun l w => ∃ (y12 : Bool) (W13 : CW), W13.w = w ∧ Le [] W8 W13 ∧ l = [vB y12] ∧ K14 y12 = some r) ?_ ?_
 ·rintro _ _ σ ⟨y12, W13, rfl, l13, rfl, hm⟩
  rw [hK14] at hm
  have a15 := a11.n l13
  have o16 := o5.up l13 rfl
  refine Cw.cond (b := y12) rfl (fun hc17 => ?_) (fun hc17 => ?_)
  ·replace hm := bt hm hc17
   refine Cw.skip ?_
   obtain ⟨K23, hK23, hm⟩ := jn_e hm
   refine Cw.join 23 36 [7, 8] (fun l w => ∃ (y18 : List Str) (y21 : Int) (v19 : Value) (W22 : CW), W22.w = w ∧ Le [2] W13 W22 ∧ l = [v19, vI y21] ∧ Ow W22 2 [] [v19] y18 ∧ K23 y18 y21 = some r) ?_ ?_
   ·rintro _ _ σ ⟨y18, y21, v19, W22, rfl, l22, rfl, o20, hm⟩
    rw [hK23] at hm
    refine Cw.region (Lw.m (vI y7) rfl (Lw.add rfl (Lw.g (vI (w64 (y7 + 1))) rfl (Lw.nil (⟨?_, m10, Nat.lt_succ_self m10, ⟨y18, y21, w64 (y7 + 1), v19, W22, rfl, (l8.trans ((l13.sub rfl).trans l22)), rfl, o20, hm⟩⟩)))))
    iterate 3 (refine Agree.up rfl ?_)
    iterate 2 (refine Agree.up rfl ?_)
    refine Agree.ov0 rfl ?_
    iterate 1 (refine Agree.up rfl ?_)
    refine Agree.ov0 rfl ?_
    iterate 3 (refine Agree.up rfl ?_)
    exact Agree.base
   ·refine Cw.block (Cw.seq (Cw.region (Lw.m (vS x0) rfl (Lw.m (vI y7) rfl ?_))))
    obtain ⟨u25, e26, hm⟩ := ob hm
    refine Lw.r rfl (R.chm e26 rfl rfl) (Lw.m (.int .u8 (UInt8.toNat x1 : Int)) rfl (Lw.eq rfl (Lw.nil (Cw.cond (b := (((UInt8.toNat u25 : Int) : Int) == ((UInt8.toNat x1 : Int) : Int))) rfl (fun hc27 => ?_) (fun hc27 => ?_)))))
    ·replace hm := bt hm hc27
     refine Cw.seq (Cw.region (Lw.m v4 rfl (Lw.m (vS x0) rfl (Lw.m (vI y6) rfl (Lw.m (vI y7) rfl ?_)))))
     obtain ⟨q28, e29, hm⟩ := ob hm
     refine Lw.r rfl (R.ss e29 rfl (.inr rfl) (.inr rfl)) (Lw.t rfl (T.bs 3 [vS q28] (cs := [vS q28]) rfl rfl (bsv rfl)) ?_)
     rintro _ _ ⟨g30, W30, rfl, rfl, l30, b30⟩
     obtain ⟨q33, e34, hm⟩ := ob hm
     refine Lw.t rfl (T.app1S (α := Str) (K' := []) (o16.up l30 rfl) b30 (rdS _) rfl rfl e34) ?_
     rintro v35 _ ⟨W35, rfl, l35, o35⟩
     refine Lw.g v35 rfl (Lw.nil (Cw.region (Lw.m (vI y7) rfl (Lw.add rfl (Lw.g (vI (w64 (y7 + 1))) rfl (Lw.nil (⟨?_, ⟨q33, w64 (y7 + 1), v35, W35, rfl, ((l30.sub rfl).trans l35), rfl, o35, hm⟩⟩)))))))
     iterate 16 (refine Agree.up rfl ?_)
     exact Agree.refl _
    ·replace hm := bf hm hc27
     refine Cw.skip (⟨?_, ⟨y3, y6, v4, W13, rfl, Le.refl _ _, rfl, o16, hm⟩⟩)
     iterate 5 (refine Agree.up rfl ?_)
     exact Agree.refl _
  ·replace hm := bf hm hc17
   refine Cw.exit ?_
   rw [hK9] at hm
   refine Cw.seq (Cw.region (Lw.m v4 rfl (Lw.m (vS x0) rfl (Lw.m (vI y6) rfl ?_))))
   obtain ⟨q38, e39, hm⟩ := ob hm
   refine Lw.r rfl (R.ss e39 rfl (.inr rfl) (.inl ⟨rfl, rfl⟩)) (Lw.t rfl (T.bs 4 [vS q38] (cs := [vS q38]) rfl rfl (bsv rfl)) ?_)
   rintro _ _ ⟨g40, W40, rfl, rfl, l40, b40⟩
   have a41 := a15.n l40
   obtain ⟨q43, e44, hm⟩ := ob hm
   refine Lw.t rfl (T.app1S (α := Str) (K' := []) (o16.up l40 rfl) b40 (rdS _) rfl rfl e44) ?_
   rintro v45 _ ⟨W45, rfl, l45, o45⟩
   have a46 := a41.t l45 rfl
   refine Lw.g v45 rfl (Lw.nil ?_)
   cases hm
   exact Cw.ret (ret1 rfl (Res.mk a46 ⟨v45, rfl, o45.s.sub rfl rfl⟩))
 ·refine Cw.region (Lw.m (vI y7) rfl (Lw.m (vS x0) rfl (Lw.r rfl (R.lenS rfl) (Lw.lt rfl (Lw.m (vB (decide ((y7 : Int) < ((x0.length : Int) : Int)))) rfl (bsplit (decide ((y7 : Int) < ((x0.length : Int) : Int))) (fun hc48 => ?_) (fun hc48 => ?_)))))))
  ·replace hm := bt hm hc48
   refine Lw.want' hc48 rfl rfl rfl rfl (Lw.m v4 rfl (Lw.want' hc48 rfl rfl rfl rfl (Lw.ln y3 o5.rd rfl (Lw.want' hc48 rfl rfl rfl rfl (Lw.m (vI x2) rfl (Lw.want' hc48 rfl rfl rfl rfl (Lw.lt rfl (Lw.p hc48 (vB (decide (((y3.length : Int) : Int) < (x2 : Int)))) rfl (Lw.nil (⟨?_, ⟨decide (((y3.length : Int) : Int) < (x2 : Int)), W8, rfl, Le.refl _ _, rfl, hm⟩⟩))))))))))
   iterate 10 (refine Agree.up rfl ?_)
   exact Agree.refl _
  ·replace hm := bf hm hc48
   refine Lw.pass' hc48 rfl rfl rfl rfl rfl rfl rfl (Lw.pass' hc48 rfl rfl rfl rfl rfl rfl rfl (Lw.pass' hc48 rfl rfl rfl rfl rfl rfl rfl (Lw.pass' hc48 rfl rfl rfl rfl rfl rfl rfl (Lw.p hc48 (vB false) rfl (Lw.nil (⟨?_, ⟨false, W8, rfl, Le.refl _ _, rfl, hm⟩⟩))))))
   iterate 10 (refine Agree.up rfl ?_)
   exact Agree.refl _

theorem p34 {W : CW} {K : List Nat} {x0 : Str} {x1 : Byte} {x2 : Int} {k0 : Nat} {r : (List Str)}  (hm : Vm.spec_l1Cut x0 x1 x2 = some r) : CallR Tryd.prog 34 [vS x0, .int .u8 (UInt8.toNat x1 : Int), vI x2].toArray W.w (Res W [] fun W' v => ∃ (u0 : Value), v = u0 ∧ Ow W' k0 [] [u0] r) :=
 (c34 (V := W.view K [])  hm).ad (fk k0) fun _ _ ⟨u0, e, f0⟩ => ⟨u0, e, f0.back (fk_LL _)⟩

theorem c40 {V : CW} {x0 : Int} {x1 : Int} {x2 : Int} {r : Bool}  (hm : Vm.spec_l1In x0 x1 x2 = some r) : CallR Tryd.prog 40 [vI x0, vI x1, vI x2].toArray V.w (Res V LL fun Wf v => v = vB r) := by
 unfold Vm.spec_l1In at hm
 obtain ⟨W0, hW0⟩ : ∃ W, W = V := ⟨V, rfl⟩
 subst hW0
 refine CallR.of Tryd.func40 rfl rfl rfl rfl (Cw.seq (Cw.region (Lw.g (vB false) rfl (Lw.nil ?_))))
 obtain ⟨K3, hK3, hm⟩ := jn_e hm
 refine Cw.join 7 14 [6] (fun l w => ∃ (y1 : Bool) (W2 : CW), W2.w = w ∧ Le [] W0 W2 ∧ l = [vB y1] ∧ K3 y1 = some r) ?_ ?_
 ·rintro _ _ σ ⟨y1, W2, rfl, l2, rfl, hm⟩
  rw [hK3] at hm
  have a4 := l2.o
  cases hm
  exact Cw.ret (ret1 rfl (Res.mk a4 rfl))
 ·refine Cw.region (Lw.m (vI x0) rfl (Lw.m (vI x1) rfl (Lw.ge rfl (Lw.m (vB (decide ((x1 : Int) ≤ (x0 : Int)))) rfl (bsplit (decide ((x1 : Int) ≤ (x0 : Int))) (fun hc5 => ?_) (fun hc5 => ?_))))))
  ·replace hm := bt hm hc5
   refine Lw.want' hc5 rfl rfl rfl rfl (Lw.m (vI x0) rfl (Lw.want' hc5 rfl rfl rfl rfl (Lw.m (vI x2) rfl (Lw.want' hc5 rfl rfl rfl rfl (Lw.le rfl (Lw.p hc5 (vB (decide ((x0 : Int) ≤ (x2 : Int)))) rfl (Lw.g (vB (decide ((x0 : Int) ≤ (x2 : Int)))) rfl (Lw.nil (⟨?_, ⟨decide ((x0 : Int) ≤ (x2 : Int)), W0, rfl, Le.refl _ _, rfl, hm⟩⟩)))))))))
   iterate 9 (refine Agree.up rfl ?_)
   exact Agree.refl _
  ·replace hm := bf hm hc5
   refine Lw.pass' hc5 rfl rfl rfl rfl rfl rfl rfl (Lw.pass' hc5 rfl rfl rfl rfl rfl rfl rfl (Lw.pass' hc5 rfl rfl rfl rfl rfl rfl rfl (Lw.p hc5 (vB false) rfl (Lw.g (vB false) rfl (Lw.nil (⟨?_, ⟨false, W0, rfl, Le.refl _ _, rfl, hm⟩⟩))))))
   iterate 9 (refine Agree.up rfl ?_)
   exact Agree.refl _

theorem p40 {W : CW} {K : List Nat} {x0 : Int} {x1 : Int} {x2 : Int} {r : Bool}  (hm : Vm.spec_l1In x0 x1 x2 = some r) : CallR Tryd.prog 40 [vI x0, vI x1, vI x2].toArray W.w (Res W [] fun W' v => v = vB r) :=
 (c40 (V := W.view K [])  hm).ad (fk 0) fun _ _ e => e

theorem c33 {V : CW} {x0 : Str} {r : Bool}  (hm : Vm.spec_l4Name x0 = some r) : CallR Tryd.prog 33 [vS x0].toArray V.w (Res V LL fun Wf v => v = vB r) := by
 unfold Vm.spec_l4Name at hm
 obtain ⟨W0, hW0⟩ : ∃ W, W = V := ⟨V, rfl⟩
 subst hW0
 refine CallR.of Tryd.func33 rfl rfl rfl rfl (Cw.seq (Cw.region (Lw.g (vB false) rfl (Lw.nil (Cw.seq (Cw.seq (Cw.region (Lw.g (vI 0) rfl (Lw.nil (Cw.block ?_))))))))))
 obtain ⟨K4, hK4, hm⟩ := jn_e hm
 refine Cw.loop 4 31 [2, 3] (fun m l w => ∃ (y1 : Bool) (y2 : Int) (W3 : CW), W3.w = w ∧ Le [] W0 W3 ∧ l = [vB y1, vI y2] ∧ Vm.spec_l4Name_l1 x0 K4 m y1 y2 = some r) (((x0.length : Int) - 0).toNat + 1) ⟨false, 0, W0, rfl, Le.refl _ _, rfl, hm⟩ ?_
 rintro m5 _ _ σ ⟨y1, y2, W3, rfl, l3, rfl, hm⟩
 obtain _ | m5 := m5
 ·cases hm
 unfold Vm.spec_l4Name_l1 at hm
 have a6 := l3.o
 refine Cw.seq (Cw.seq (Cw.region (Lw.m (vI y2) rfl (Lw.m (vS x0) rfl (Lw.r rfl (R.lenS rfl) (Lw.lt rfl (Lw.nil (Cw.cond (b := decide ((y2 : Int) < ((x0.length : Int) : Int))) rfl (fun hc7 => ?_) (fun hc7 => ?_)))))))))
 ·replace hm := bt hm hc7
  refine Cw.skip (Cw.seq (Cw.block ?_))
  obtain ⟨K10, hK10, hm⟩ := jn_e hm
  refine Cw.join 10 31 [31] (fun l w => ∃ (y8 : Bool) (W9 : CW), W9.w = w ∧ Le [] W3 W9 ∧ l = [vB y8] ∧ K10 y8 = some r) ?_ ?_
  ·rintro _ _ σ ⟨y8, W9, rfl, l9, rfl, hm⟩
   rw [hK10] at hm
   have a11 := a6.n l9
   refine Cw.cond (b := y8) rfl (fun hc12 => ?_) (fun hc12 => ?_)
   ·replace hm := bt hm hc12
    refine Cw.seq (Cw.region (Lw.g (vB false) rfl (Lw.nil ?_)))
    cases hm
    exact Cw.ret (ret1 rfl (Res.mk a11 rfl))
   ·replace hm := bf hm hc12
    refine Cw.skip (Cw.region (Lw.m (vI y2) rfl (Lw.add rfl (Lw.g (vI (w64 (y2 + 1))) rfl (Lw.nil (⟨?_, m5, Nat.lt_succ_self m5, ⟨y1, w64 (y2 + 1), W9, rfl, (l3.trans l9), rfl, hm⟩⟩))))))
    iterate 3 (refine Agree.up rfl ?_)
    iterate 1 (refine Agree.up rfl ?_)
    refine Agree.ov0 rfl ?_
    iterate 4 (refine Agree.up rfl ?_)
    iterate 2 (refine Agree.up rfl ?_)
    exact Agree.base
  ·refine Cw.region (Lw.m (vS x0) rfl (Lw.m (vI y2) rfl ?_))
   obtain ⟨u13, e14, hm⟩ := ob hm
   refine Lw.r rfl (R.chm e14 rfl rfl) (Lw.lt rfl (Lw.m (vB (decide (((UInt8.toNat u13 : Int) : Int) < (97 : Int)))) rfl (bsplit (decide (((UInt8.toNat u13 : Int) : Int) < (97 : Int))) (fun hc15 => ?_) (fun hc15 => ?_))))
   ·replace hm := bt hm hc15
    refine Lw.pass' hc15 rfl rfl rfl rfl rfl rfl rfl (Lw.pass' hc15 rfl rfl rfl rfl rfl rfl rfl (Lw.pass' hc15 rfl rfl rfl rfl rfl rfl rfl (Lw.pass' hc15 rfl rfl rfl rfl rfl rfl rfl (Lw.p hc15 (vB true) rfl (Lw.m (vB true) rfl (Lw.want' rfl rfl rfl rfl rfl (Lw.m (vS x0) rfl (Lw.want' rfl rfl rfl rfl rfl (Lw.m (vI y2) rfl (Lw.want' rfl rfl rfl rfl rfl ?_))))))))))
    obtain ⟨u16, e17, hm⟩ := ob hm
    refine Lw.r rfl (R.chm e17 rfl rfl) (Lw.want' rfl rfl rfl rfl rfl (Lw.lt rfl (Lw.want' rfl rfl rfl rfl rfl (Lw.m (vB (decide (((UInt8.toNat u16 : Int) : Int) < (48 : Int)))) rfl (bsplit (decide (((UInt8.toNat u16 : Int) : Int) < (48 : Int))) (fun hc18 => ?_) (fun hc18 => ?_))))))
    ·replace hm := bt hm hc18
     refine Lw.pass' hc18 rfl rfl rfl rfl rfl rfl rfl (Lw.pass' hc18 rfl rfl rfl rfl rfl rfl rfl (Lw.pass' hc18 rfl rfl rfl rfl rfl rfl rfl (Lw.pass' hc18 rfl rfl rfl rfl rfl rfl rfl (Lw.want' rfl rfl rfl rfl rfl (Lw.p hc18 (vB true) rfl (Lw.p rfl (vB true) rfl (Lw.nil (⟨?_, ⟨true, W3, rfl, Le.refl _ _, rfl, hm⟩⟩))))))))
     iterate 22 (refine Agree.up rfl ?_)
     exact Agree.refl _
    ·replace hm := bf hm hc18
     refine Lw.want' hc18 rfl rfl rfl rfl (Lw.m (vS x0) rfl (Lw.want' hc18 rfl rfl rfl rfl (Lw.m (vI y2) rfl (Lw.want' hc18 rfl rfl rfl rfl ?_))))
     obtain ⟨u19, e20, hm⟩ := ob hm
     refine Lw.r rfl (R.chm e20 rfl rfl) (Lw.want' hc18 rfl rfl rfl rfl (Lw.gt rfl (Lw.want' rfl rfl rfl rfl rfl (Lw.p hc18 (vB (decide ((57 : Int) < ((UInt8.toNat u19 : Int) : Int)))) rfl (Lw.p rfl (vB (decide ((57 : Int) < ((UInt8.toNat u19 : Int) : Int)))) rfl (Lw.nil (⟨?_, ⟨decide ((57 : Int) < ((UInt8.toNat u19 : Int) : Int)), W3, rfl, Le.refl _ _, rfl, hm⟩⟩)))))))
     iterate 22 (refine Agree.up rfl ?_)
     exact Agree.refl _
   ·replace hm := bf hm hc15
    refine Lw.want' hc15 rfl rfl rfl rfl (Lw.m (vS x0) rfl (Lw.want' hc15 rfl rfl rfl rfl (Lw.m (vI y2) rfl (Lw.want' hc15 rfl rfl rfl rfl ?_))))
    obtain ⟨u21, e22, hm⟩ := ob hm
    refine Lw.r rfl (R.chm e22 rfl rfl) (Lw.want' hc15 rfl rfl rfl rfl (Lw.gt rfl (Lw.p hc15 (vB (decide ((122 : Int) < ((UInt8.toNat u21 : Int) : Int)))) rfl (Lw.m (vB (decide ((122 : Int) < ((UInt8.toNat u21 : Int) : Int)))) rfl (bsplit (decide ((122 : Int) < ((UInt8.toNat u21 : Int) : Int))) (fun hc23 => ?_) (fun hc23 => ?_))))))
    ·replace hm := bt hm hc23
     refine Lw.want' hc23 rfl rfl rfl rfl (Lw.m (vS x0) rfl (Lw.want' hc23 rfl rfl rfl rfl (Lw.m (vI y2) rfl (Lw.want' hc23 rfl rfl rfl rfl ?_))))
     obtain ⟨u24, e25, hm⟩ := ob hm
     refine Lw.r rfl (R.chm e25 rfl rfl) (Lw.want' hc23 rfl rfl rfl rfl (Lw.lt rfl (Lw.want' hc23 rfl rfl rfl rfl (Lw.m (vB (decide (((UInt8.toNat u24 : Int) : Int) < (48 : Int)))) rfl (bsplit (decide (((UInt8.toNat u24 : Int) : Int) < (48 : Int))) (fun hc26 => ?_) (fun hc26 => ?_))))))
     ·replace hm := bt hm hc26
      refine Lw.pass' hc26 rfl rfl rfl rfl rfl rfl rfl (Lw.pass' hc26 rfl rfl rfl rfl rfl rfl rfl (Lw.pass' hc26 rfl rfl rfl rfl rfl rfl rfl (Lw.pass' hc26 rfl rfl rfl rfl rfl rfl rfl (Lw.want' hc23 rfl rfl rfl rfl (Lw.p hc26 (vB true) rfl (Lw.p hc23 (vB true) rfl (Lw.nil (⟨?_, ⟨true, W3, rfl, Le.refl _ _, rfl, hm⟩⟩))))))))
      iterate 22 (refine Agree.up rfl ?_)
      exact Agree.refl _
     ·replace hm := bf hm hc26
      refine Lw.want' hc26 rfl rfl rfl rfl (Lw.m (vS x0) rfl (Lw.want' hc26 rfl rfl rfl rfl (Lw.m (vI y2) rfl (Lw.want' hc26 rfl rfl rfl rfl ?_))))
      obtain ⟨u27, e28, hm⟩ := ob hm
      refine Lw.r rfl (R.chm e28 rfl rfl) (Lw.want' hc26 rfl rfl rfl rfl (Lw.gt rfl (Lw.want' hc23 rfl rfl rfl rfl (Lw.p hc26 (vB (decide ((57 : Int) < ((UInt8.toNat u27 : Int) : Int)))) rfl (Lw.p hc23 (vB (decide ((57 : Int) < ((UInt8.toNat u27 : Int) : Int)))) rfl (Lw.nil (⟨?_, ⟨decide ((57 : Int) < ((UInt8.toNat u27 : Int) : Int)), W3, rfl, Le.refl _ _, rfl, hm⟩⟩)))))))
      iterate 22 (refine Agree.up rfl ?_)
      exact Agree.refl _
    ·replace hm := bf hm hc23
     refine Lw.pass' hc23 rfl rfl rfl rfl rfl rfl rfl (Lw.pass' hc23 rfl rfl rfl rfl rfl rfl rfl (Lw.pass' hc23 rfl rfl rfl rfl rfl rfl rfl (Lw.pass' hc23 rfl rfl rfl rfl rfl rfl rfl (Lw.pass' hc23 rfl rfl rfl rfl rfl rfl rfl (Lw.passU rfl rfl rfl rfl rfl rfl (Lw.passU rfl rfl rfl rfl rfl rfl (Lw.passU rfl rfl rfl rfl rfl rfl (Lw.passU rfl rfl rfl rfl rfl rfl (Lw.pass' hc23 rfl rfl rfl rfl rfl rfl rfl (Lw.p hc23 (vB false) rfl (Lw.nil (⟨?_, ⟨false, W3, rfl, Le.refl _ _, rfl, hm⟩⟩))))))))))))
     iterate 22 (refine Agree.up rfl ?_)
     exact Agree.refl _
 ·replace hm := bf hm hc7
  refine Cw.exit ?_
  rw [hK4] at hm
  refine Cw.seq (Cw.region (Lw.m (vS x0) rfl (Lw.r rfl (R.lenS rfl) ?_)))
  obtain ⟨z29, e30, hm⟩ := ob hm
  refine Lw.t rfl (T.call rfl (p40 (K := [0])   e30)) ?_
  rintro _ _ ⟨W31, rfl, l31, rfl⟩
  have a32 := a6.n l31
  refine Lw.g (vB z29) rfl (Lw.nil ?_)
  cases hm
  exact Cw.ret (ret1 rfl (Res.mk a32 rfl))

theorem p33 {W : CW} {K : List Nat} {x0 : Str} {r : Bool}  (hm : Vm.spec_l4Name x0 = some r) : CallR Tryd.prog 33 [vS x0].toArray W.w (Res W [] fun W' v => v = vB r) :=
 (c33 (V := W.view K [])  hm).ad (fk 0) fun _ _ e => e

theorem c17 {V : CW} {x0 : Str} {r : Bool}  (hm : Vm.spec_l4Path x0 = some r) : CallR Tryd.prog 17 [vS x0].toArray V.w (Res V LL fun Wf v => v = vB r) := by
 unfold Vm.spec_l4Path at hm
 obtain ⟨W0, hW0⟩ : ∃ W, W = V := ⟨V, rfl⟩
 subst hW0
 refine CallR.of Tryd.func17 rfl rfl rfl rfl (Cw.seq (Cw.region (Lw.g (vB false) rfl (Lw.nil (Cw.seq (Cw.region (Lw.m (vS x0) rfl ?_)))))))
 obtain ⟨z1, e2, hm⟩ := ob hm
 refine Lw.t rfl (T.call rfl (p34 (K := [0]) (k0 := 2) (x1 := (UInt8.ofNatLT 47 (by decide) : Byte))  e2)) ?_
 rintro v0_3 _ ⟨W3, rfl, l3, ⟨_, rfl, f3_0⟩⟩
 have a4 := l3.o
 refine Lw.g v0_3 rfl (Lw.nil (Cw.seq (Cw.seq (Cw.region (Lw.g (vI 0) rfl (Lw.nil (Cw.block ?_)))))))
 obtain ⟨K8, hK8, hm⟩ := jn_e hm
 refine Cw.loop 7 18 [2, 4] (fun m l w => ∃ (y5 : Bool) (y6 : Int) (W7 : CW), W7.w = w ∧ Le [] W3 W7 ∧ l = [vB y5, vI y6] ∧ Vm.spec_l4Path_l1 z1 K8 m y5 y6 = some r) (((z1.length : Int) - 0).toNat + 1) ⟨false, 0, W3, rfl, Le.refl _ _, rfl, hm⟩ ?_
 rintro m9 _ _ σ ⟨y5, y6, W7, rfl, l7, rfl, hm⟩
 obtain _ | m9 := m9
 ·cases hm
 unfold Vm.spec_l4Path_l1 at hm
 have a10 := a4.n l7
 have o11 := f3_0.up l7 rfl
 refine Cw.seq (Cw.seq (Cw.region (Lw.m (vI y6) rfl (Lw.m v0_3 rfl (Lw.ln z1 o11.rd rfl (Lw.lt rfl (Lw.nil (Cw.cond (b := decide ((y6 : Int) < ((z1.length : Int) : Int))) rfl (fun hc12 => ?_) (fun hc12 => ?_)))))))))
 ·replace hm := bt hm hc12
  refine Cw.skip (Cw.seq (Cw.block (Cw.seq (Cw.region (Lw.m v0_3 rfl (Lw.m (vI y6) rfl ?_))))))
  obtain ⟨u13, e14, hm⟩ := ob hm
  refine Lw.r rfl (R.ix (α := Str) o11.rd e14 rfl rfl rfl) (Lw.r rfl (R.ld rfl rfl (o11.rd.at_ e14).str) ?_)
  obtain ⟨z15, e16, hm⟩ := ob hm
  refine Lw.t rfl (T.call rfl (p33 (K := [0])   e16)) ?_
  rintro _ _ ⟨W17, rfl, l17, rfl⟩
  have a18 := a10.n l17
  refine Lw.r rfl (R.not rfl) (Lw.nil (Cw.cond (b := (!z15)) rfl (fun hc20 => ?_) (fun hc20 => ?_)))
  ·replace hm := bt hm hc20
   refine Cw.seq (Cw.region (Lw.g (vB false) rfl (Lw.nil ?_)))
   cases hm
   exact Cw.ret (ret1 rfl (Res.mk a18 rfl))
  ·replace hm := bf hm hc20
   refine Cw.skip (Cw.region (Lw.m (vI y6) rfl (Lw.add rfl (Lw.g (vI (w64 (y6 + 1))) rfl (Lw.nil (⟨?_, m9, Nat.lt_succ_self m9, ⟨y5, w64 (y6 + 1), W17, rfl, (l7.trans l17), rfl, hm⟩⟩))))))
   iterate 13 (refine Agree.up rfl ?_)
   iterate 2 (refine Agree.up rfl ?_)
   exact Agree.base
 ·replace hm := bf hm hc12
  refine Cw.exit ?_
  rw [hK8] at hm
  refine Cw.seq (Cw.region (Lw.m v0_3 rfl (Lw.ln z1 o11.rd rfl (Lw.le rfl (Lw.g (vB (decide (((z1.length : Int) : Int) ≤ (3 : Int)))) rfl (Lw.nil ?_))))))
  cases hm
  exact Cw.ret (ret1 rfl (Res.mk a10 rfl))

theorem p17 {W : CW} {K : List Nat} {x0 : Str} {r : Bool}  (hm : Vm.spec_l4Path x0 = some r) : CallR Tryd.prog 17 [vS x0].toArray W.w (Res W [] fun W' v => v = vB r) :=
 (c17 (V := W.view K [])  hm).ad (fk 0) fun _ _ e => e

theorem c16 {V : CW} {x0 : List Vm.Owner} {v0_ : Value} {r : Bool} (h0 : Rd V [0] [v0_] x0) (hm : Vm.spec_l17Owners x0 = some r) : CallR Tryd.prog 16 [v0_].toArray V.w (Res V LL fun Wf v => v = vB r) := by
 unfold Vm.spec_l17Owners at hm
 obtain ⟨W0, hW0⟩ : ∃ W, W = V := ⟨V, rfl⟩
 subst hW0
 refine CallR.of Tryd.func16 rfl rfl rfl rfl (Cw.seq (Cw.region (Lw.g (vB false) rfl (Lw.nil (Cw.seq (Cw.seq (Cw.region (Lw.g (vI 0) rfl (Lw.nil (Cw.block ?_))))))))))
 obtain ⟨K4, hK4, hm⟩ := jn_e hm
 refine Cw.loop 4 43 [2, 3] (fun m l w => ∃ (y1 : Bool) (y2 : Int) (W3 : CW), W3.w = w ∧ Le [] W0 W3 ∧ l = [vB y1, vI y2] ∧ Vm.spec_l17Owners_l1 x0 K4 m y1 y2 = some r) (((x0.length : Int) - 0).toNat + 1) ⟨false, 0, W0, rfl, Le.refl _ _, rfl, hm⟩ ?_
 rintro m5 _ _ σ ⟨y1, y2, W3, rfl, l3, rfl, hm⟩
 obtain _ | m5 := m5
 ·cases hm
 unfold Vm.spec_l17Owners_l1 at hm
 have a6 := l3.o
 refine Cw.seq (Cw.seq (Cw.region (Lw.m (vI y2) rfl (Lw.m v0_ rfl (Lw.ln x0 (h0.ul a6) rfl (Lw.lt rfl (Lw.nil (Cw.cond (b := decide ((y2 : Int) < ((x0.length : Int) : Int))) rfl (fun hc8 => ?_) (fun hc8 => ?_)))))))))
 ·replace hm := bt hm hc8
  refine Cw.skip (Cw.seq (Cw.block ?_))
  obtain ⟨K11, hK11, hm⟩ := jn_e hm
  refine Cw.join 10 43 [43] (fun l w => ∃ (y9 : Bool) (W10 : CW), W10.w = w ∧ Le [] W3 W10 ∧ l = [vB y9] ∧ K11 y9 = some r) ?_ ?_
  ·rintro _ _ σ ⟨y9, W10, rfl, l10, rfl, hm⟩
   rw [hK11] at hm
   have a12 := a6.n l10
   refine Cw.cond (b := y9) rfl (fun hc13 => ?_) (fun hc13 => ?_)
   ·replace hm := bt hm hc13
    refine Cw.seq (Cw.region (Lw.g (vB false) rfl (Lw.nil ?_)))
    cases hm
    exact Cw.ret (ret1 rfl (Res.mk a12 rfl))
   ·replace hm := bf hm hc13
    refine Cw.skip (Cw.region (Lw.m (vI y2) rfl (Lw.add rfl (Lw.g (vI (w64 (y2 + 1))) rfl (Lw.nil (⟨?_, m5, Nat.lt_succ_self m5, ⟨y1, w64 (y2 + 1), W10, rfl, (l3.trans l10), rfl, hm⟩⟩))))))
    iterate 3 (refine Agree.up rfl ?_)
    iterate 1 (refine Agree.up rfl ?_)
    refine Agree.ov0 rfl ?_
    iterate 4 (refine Agree.up rfl ?_)
    iterate 2 (refine Agree.up rfl ?_)
    exact Agree.base
  ·refine Cw.draw [] [(0, 0), (1, 0), (2, 0), (3, 0), (4, 1), (5, 2), (6, 0), (7, 0), (8, 0), (9, 0), (10, 0), (11, 0), (12, 1), (13, 2), (14, 0), (15, 0), (16, 0), (17, 0), (18, 0), (19, 0), (20, 0), (21, 0), (22, 0), (23, 0), (24, 1), (25, 0), (26, 0), (27, 0), (28, 0), (29, 0), (30, 1), (31, 0), (32, 0), (33, 0)] mixed (by kernel_rfl) fun W14 l14 => ?_
   have a15 := a6.n l14
   refine Mw.p rfl rfl (fun _ => R.mv (v := v0_) rfl) (Mw.p rfl rfl (fun _ => R.mv (v := vI y2) rfl) ?_)
   obtain ⟨u16, e17, hm⟩ := ob hm
   have s18 := h0.ul a15
   refine Mw.p rfl rfl (fun _ => R.ix (α := Owner) s18 e17 rfl rfl rfl) (Mw.p rfl rfl (fun _ => R.fa rfl) (Mw.q rfl rfl (fun _ c => R.ld rfl rfl (cl_cell (Owner.at0 (s18.at_ e17)).1 rfl (Owner.at0 (s18.at_ e17)).str c)) ?_))
   obtain ⟨z19, e20, hm⟩ := ob hm
   refine Mw.t rfl rfl (T.call rfl (p17 (K := [0])   e20)) ?_
   rintro _ _ ⟨W21, rfl, l21, rfl⟩
   refine ⟨⟨_, rfl, (l21.sub (M := []) rfl)⟩, ?_⟩
   refine Mw.p rfl rfl (fun _ => R.not rfl) (Mw.p rfl rfl (fun _ => R.mv (v := vB (!z19)) rfl) (bsplit (!z19) (fun hc23 => ?_) (fun hc23 => ?_)))
   ·replace hm := bt hm hc23
    refine Mw.pass' hc23 rfl rfl rfl rfl rfl rfl (Mw.pass' hc23 rfl rfl rfl rfl rfl rfl (Mw.pass' hc23 rfl rfl rfl rfl rfl rfl (Mw.pass' hc23 rfl rfl rfl rfl rfl rfl (Mw.pass' hc23 rfl rfl rfl rfl rfl rfl (Mw.pass' hc23 rfl rfl rfl rfl rfl rfl (Mw.pass' hc23 rfl rfl rfl rfl rfl rfl (Mw.p rfl rfl (fun _ => R.pk hc23 rfl (v := vB true) rfl) (Mw.p rfl rfl (fun _ => R.mv (v := vB true) rfl) (Mw.pass' rfl rfl rfl rfl rfl rfl rfl (Mw.pass' rfl rfl rfl rfl rfl rfl rfl (Mw.pass' rfl rfl rfl rfl rfl rfl rfl (Mw.passU rfl rfl rfl rfl rfl (Mw.passU rfl rfl rfl rfl rfl (Mw.passU rfl rfl rfl rfl rfl (Mw.passU rfl rfl rfl rfl rfl (Mw.passU rfl rfl rfl rfl rfl (Mw.passU rfl rfl rfl rfl rfl (Mw.passU rfl rfl rfl rfl rfl (Mw.passU rfl rfl rfl rfl rfl (Mw.passU rfl rfl rfl rfl rfl (Mw.passU rfl rfl rfl rfl rfl (Mw.passU rfl rfl rfl rfl rfl (Mw.passU rfl rfl rfl rfl rfl (Mw.pass' rfl rfl rfl rfl rfl rfl rfl (Mw.p rfl rfl (fun _ => R.pk rfl rfl (v := vB true) rfl) (Mw.nil (⟨?_, ⟨true, W21, rfl, (l14.trans l21), rfl, hm⟩⟩)))))))))))))))))))))))))))
    iterate 34 (refine Agree.up rfl ?_)
    exact Agree.refl _
   ·replace hm := bf hm hc23
    refine Mw.gp hc23 rfl rfl rfl rfl rfl (fun _ => R.mv (v := v0_) rfl) (Mw.gp hc23 rfl rfl rfl rfl rfl (fun _ => R.mv (v := vI y2) rfl) ?_)
    obtain ⟨u24, e25, hm⟩ := ob hm
    refine Mw.gp hc23 rfl rfl rfl rfl rfl (fun _ => R.ix (α := Owner) s18 e25 rfl rfl rfl) (Mw.gp hc23 rfl rfl rfl rfl rfl (fun _ => R.fa rfl) (Mw.gq hc23 rfl rfl rfl rfl rfl (fun _ c => R.ld rfl rfl (cl_cell (Owner.at1 (s18.at_ e25)).1 rfl (Owner.at1 (s18.at_ e25)).str c)) ?_))
    obtain ⟨z26, e27, hm⟩ := ob hm
    refine Mw.gt hc23 rfl rfl rfl rfl rfl (T.call rfl (p33 (K := [0])   e27)) ?_
    rintro _ _ ⟨W28, rfl, l28, rfl⟩
    refine ⟨⟨_, rfl, ((l21.sub (M := []) rfl).trans (l28.sub (M := []) rfl))⟩, ?_⟩
    refine Mw.gp hc23 rfl rfl rfl rfl rfl (fun _ => R.not rfl) (Mw.p rfl rfl (fun _ => R.pk hc23 rfl (v := vB (!z26)) rfl) (Mw.p rfl rfl (fun _ => R.mv (v := vB (!z26)) rfl) (bsplit (!z26) (fun hc30 => ?_) (fun hc30 => ?_))))
    ·replace hm := bt hm hc30
     refine Mw.pass' hc30 rfl rfl rfl rfl rfl rfl (Mw.pass' hc30 rfl rfl rfl rfl rfl rfl (Mw.pass' hc30 rfl rfl rfl rfl rfl rfl (Mw.passU rfl rfl rfl rfl rfl (Mw.passU rfl rfl rfl rfl rfl (Mw.passU rfl rfl rfl rfl rfl (Mw.passU rfl rfl rfl rfl rfl (Mw.passU rfl rfl rfl rfl rfl (Mw.passU rfl rfl rfl rfl rfl (Mw.passU rfl rfl rfl rfl rfl (Mw.passU rfl rfl rfl rfl rfl (Mw.passU rfl rfl rfl rfl rfl (Mw.passU rfl rfl rfl rfl rfl (Mw.passU rfl rfl rfl rfl rfl (Mw.passU rfl rfl rfl rfl rfl (Mw.pass' hc30 rfl rfl rfl rfl rfl rfl (Mw.p rfl rfl (fun _ => R.pk hc30 rfl (v := vB true) rfl) (Mw.nil (⟨?_, ⟨true, W28, rfl, (l14.trans (l21.trans l28)), rfl, hm⟩⟩))))))))))))))))))
     iterate 34 (refine Agree.up rfl ?_)
     exact Agree.refl _
    ·replace hm := bf hm hc30
     refine Mw.gp hc30 rfl rfl rfl rfl rfl (fun _ => R.mv (v := vI y2) rfl) (Mw.gp hc30 rfl rfl rfl rfl rfl (fun _ => R.gt rfl rfl) (Mw.gp hc30 rfl rfl rfl rfl rfl (fun _ => R.mv (v := vB (decide ((0 : Int) < (y2 : Int)))) rfl) (bsplit (decide ((0 : Int) < (y2 : Int))) (fun hc31 => ?_) (fun hc31 => ?_))))
     ·replace hm := bt hm hc31
      refine Mw.gp hc31 rfl rfl rfl rfl rfl (fun _ => R.mv (v := v0_) rfl) (Mw.gp hc31 rfl rfl rfl rfl rfl (fun _ => R.mv (v := vI y2) rfl) ?_)
      obtain ⟨u32, e33, hm⟩ := ob hm
      refine Mw.gp hc31 rfl rfl rfl rfl rfl (fun _ => R.ix (α := Owner) s18 e33 rfl rfl rfl) (Mw.gp hc31 rfl rfl rfl rfl rfl (fun _ => R.fa rfl) (Mw.gq hc31 rfl rfl rfl rfl rfl (fun _ c => R.ld rfl rfl (cl_cell (Owner.at0 (s18.at_ e33)).1 rfl (Owner.at0 (s18.at_ e33)).str c)) (Mw.gp hc31 rfl rfl rfl rfl rfl (fun _ => R.mv (v := v0_) rfl) (Mw.gp hc31 rfl rfl rfl rfl rfl (fun _ => R.mv (v := vI y2) rfl) (Mw.gp hc31 rfl rfl rfl rfl rfl (fun _ => R.sub rfl rfl) ?_)))))
      obtain ⟨u34, e35, hm⟩ := ob hm
      refine Mw.gp hc31 rfl rfl rfl rfl rfl (fun _ => R.ix (α := Owner) s18 e35 rfl rfl rfl) (Mw.gp hc31 rfl rfl rfl rfl rfl (fun _ => R.fa rfl) (Mw.gq hc31 rfl rfl rfl rfl rfl (fun _ c => R.ld rfl rfl (cl_cell (Owner.at0 (s18.at_ e35)).1 rfl (Owner.at0 (s18.at_ e35)).str c)) (Mw.gp hc31 rfl rfl rfl rfl rfl (fun _ => R.sle rfl rfl) (Mw.gp hc30 rfl rfl rfl rfl rfl (fun _ => R.pk hc31 rfl (v := vB (Op.bytesLess u32.Path u34.Path || u32.Path == u34.Path)) rfl) (Mw.p rfl rfl (fun _ => R.pk hc30 rfl (v := vB (Op.bytesLess u32.Path u34.Path || u32.Path == u34.Path)) rfl) (Mw.nil (⟨?_, ⟨(Op.bytesLess u32.Path u34.Path || u32.Path == u34.Path), W28, rfl, (l14.trans (l21.trans l28)), rfl, hm⟩⟩)))))))
      iterate 34 (refine Agree.up rfl ?_)
      exact Agree.refl _
     ·replace hm := bf hm hc31
      refine Mw.pass' hc31 rfl rfl rfl rfl rfl rfl (Mw.pass' hc31 rfl rfl rfl rfl rfl rfl (Mw.pass' hc31 rfl rfl rfl rfl rfl rfl (Mw.pass' hc31 rfl rfl rfl rfl rfl rfl (Mw.pass' hc31 rfl rfl rfl rfl rfl rfl (Mw.pass' hc31 rfl rfl rfl rfl rfl rfl (Mw.pass' hc31 rfl rfl rfl rfl rfl rfl (Mw.pass' hc31 rfl rfl rfl rfl rfl rfl (Mw.pass' hc31 rfl rfl rfl rfl rfl rfl (Mw.pass' hc31 rfl rfl rfl rfl rfl rfl (Mw.pass' hc31 rfl rfl rfl rfl rfl rfl (Mw.pass' hc31 rfl rfl rfl rfl rfl rfl (Mw.gp hc30 rfl rfl rfl rfl rfl (fun _ => R.pk hc31 rfl (v := vB false) rfl) (Mw.p rfl rfl (fun _ => R.pk hc30 rfl (v := vB false) rfl) (Mw.nil (⟨?_, ⟨false, W28, rfl, (l14.trans (l21.trans l28)), rfl, hm⟩⟩)))))))))))))))
      iterate 34 (refine Agree.up rfl ?_)
      exact Agree.refl _
 ·replace hm := bf hm hc8
  refine Cw.exit ?_
  rw [hK4] at hm
  refine Cw.seq (Cw.region (Lw.m v0_ rfl (Lw.ln x0 (h0.ul a6) rfl (Lw.le rfl (Lw.g (vB (decide (((x0.length : Int) : Int) ≤ (5 : Int)))) rfl (Lw.nil ?_))))))
  cases hm
  exact Cw.ret (ret1 rfl (Res.mk a6 rfl))

theorem p16 {W : CW} {K : List Nat} {x0 : List Vm.Owner} {v0_ : Value} {r : Bool} (h0 : Rd W K [v0_] x0) (hm : Vm.spec_l17Owners x0 = some r) : CallR Tryd.prog 16 [v0_].toArray W.w (Res W [] fun W' v => v = vB r) :=
 (c16 (V := W.view K []) (h0.view _) hm).ad (fk 0) fun _ _ e => e

theorem c35 {V : CW} {x0 : Str} {x1 : Str} {r : Bool}  (hm : Vm.spec_l4In x0 x1 = some r) : CallR Tryd.prog 35 [vS x0, vS x1].toArray V.w (Res V LL fun Wf v => v = vB r) := by
 unfold Vm.spec_l4In at hm
 obtain ⟨W0, hW0⟩ : ∃ W, W = V := ⟨V, rfl⟩
 subst hW0
 refine CallR.of Tryd.func35 rfl rfl rfl rfl (Cw.seq (Cw.region (Lw.g (vB false) rfl (Lw.nil ?_))))
 obtain ⟨K3, hK3, hm⟩ := jn_e hm
 refine Cw.join 5 24 [4] (fun l w => ∃ (y1 : Bool) (W2 : CW), W2.w = w ∧ Le [] W0 W2 ∧ l = [vB y1] ∧ K3 y1 = some r) ?_ ?_
 ·rintro _ _ σ ⟨y1, W2, rfl, l2, rfl, hm⟩
  rw [hK3] at hm
  have a4 := l2.o
  cases hm
  exact Cw.ret (ret1 rfl (Res.mk a4 rfl))
 ·refine Cw.region (Lw.m (vS x1) rfl (Lw.r rfl (R.lenS rfl) (Lw.m (vS x0) rfl (Lw.r rfl (R.lenS rfl) (Lw.gt rfl (Lw.m (vB (decide (((x0.length : Int) : Int) < ((x1.length : Int) : Int)))) rfl (bsplit (decide (((x0.length : Int) : Int) < ((x1.length : Int) : Int))) (fun hc5 => ?_) (fun hc5 => ?_))))))))
  ·replace hm := bt hm hc5
   refine Lw.want' hc5 rfl rfl rfl rfl (Lw.m (vS x1) rfl (Lw.want' hc5 rfl rfl rfl rfl (Lw.m (vS x0) rfl (Lw.want' hc5 rfl rfl rfl rfl (Lw.r rfl (R.lenS rfl) (Lw.want' hc5 rfl rfl rfl rfl ?_))))))
   obtain ⟨q6, e7, hm⟩ := ob hm
   refine Lw.r rfl (R.ss e7 rfl (.inl ⟨rfl, rfl⟩) (.inr rfl)) (Lw.want' hc5 rfl rfl rfl rfl (Lw.m (vS x0) rfl (Lw.want' hc5 rfl rfl rfl rfl (Lw.seq rfl (Lw.p hc5 (vB (q6 == x0)) rfl (Lw.m (vB (q6 == x0)) rfl (bsplit (q6 == x0) (fun hc8 => ?_) (fun hc8 => ?_))))))))
   ·replace hm := bt hm hc8
    refine Lw.want' hc8 rfl rfl rfl rfl (Lw.m (vS x1) rfl (Lw.want' hc8 rfl rfl rfl rfl (Lw.m (vS x0) rfl (Lw.want' hc8 rfl rfl rfl rfl (Lw.r rfl (R.lenS rfl) (Lw.want' hc8 rfl rfl rfl rfl ?_))))))
    obtain ⟨u9, e10, hm⟩ := ob hm
    refine Lw.r rfl (R.chm e10 rfl rfl) (Lw.want' hc8 rfl rfl rfl rfl (Lw.eq rfl (Lw.p hc8 (vB (((UInt8.toNat u9 : Int) : Int) == (47 : Int))) rfl (Lw.g (vB (((UInt8.toNat u9 : Int) : Int) == (47 : Int))) rfl (Lw.nil (⟨?_, ⟨(((UInt8.toNat u9 : Int) : Int) == (47 : Int)), W0, rfl, Le.refl _ _, rfl, hm⟩⟩))))))
    iterate 21 (refine Agree.up rfl ?_)
    exact Agree.refl _
   ·replace hm := bf hm hc8
    refine Lw.pass' hc8 rfl rfl rfl rfl rfl rfl rfl (Lw.pass' hc8 rfl rfl rfl rfl rfl rfl rfl (Lw.pass' hc8 rfl rfl rfl rfl rfl rfl rfl (Lw.pass' hc8 rfl rfl rfl rfl rfl rfl rfl (Lw.pass' hc8 rfl rfl rfl rfl rfl rfl rfl (Lw.p hc8 (vB false) rfl (Lw.g (vB false) rfl (Lw.nil (⟨?_, ⟨false, W0, rfl, Le.refl _ _, rfl, hm⟩⟩))))))))
    iterate 21 (refine Agree.up rfl ?_)
    exact Agree.refl _
  ·replace hm := bf hm hc5
   refine Lw.pass' hc5 rfl rfl rfl rfl rfl rfl rfl (Lw.pass' hc5 rfl rfl rfl rfl rfl rfl rfl (Lw.pass' hc5 rfl rfl rfl rfl rfl rfl rfl (Lw.pass' hc5 rfl rfl rfl rfl rfl rfl rfl (Lw.pass' hc5 rfl rfl rfl rfl rfl rfl rfl (Lw.pass' hc5 rfl rfl rfl rfl rfl rfl rfl (Lw.p hc5 (vB false) rfl (Lw.m (vB false) rfl (Lw.pass' rfl rfl rfl rfl rfl rfl rfl rfl (Lw.pass' rfl rfl rfl rfl rfl rfl rfl rfl (Lw.pass' rfl rfl rfl rfl rfl rfl rfl rfl (Lw.pass' rfl rfl rfl rfl rfl rfl rfl rfl (Lw.pass' rfl rfl rfl rfl rfl rfl rfl rfl (Lw.p rfl (vB false) rfl (Lw.g (vB false) rfl (Lw.nil (⟨?_, ⟨false, W0, rfl, Le.refl _ _, rfl, hm⟩⟩))))))))))))))))
   iterate 21 (refine Agree.up rfl ?_)
   exact Agree.refl _

theorem p35 {W : CW} {K : List Nat} {x0 : Str} {x1 : Str} {r : Bool}  (hm : Vm.spec_l4In x0 x1 = some r) : CallR Tryd.prog 35 [vS x0, vS x1].toArray W.w (Res W [] fun W' v => v = vB r) :=
 (c35 (V := W.view K [])  hm).ad (fk 0) fun _ _ e => e

theorem c18 {V : CW} {x0 : List Vm.Owner} {v0_ : Value} {x1 : Str} {r : Str} (h0 : Rd V [0] [v0_] x0) (hm : Vm.spec_l17Who x0 x1 = some r) : CallR Tryd.prog 18 [v0_, vS x1].toArray V.w (Res V LL fun Wf v => v = vS r) := by
 unfold Vm.spec_l17Who at hm
 obtain ⟨W0, hW0⟩ : ∃ W, W = V := ⟨V, rfl⟩
 subst hW0
 refine CallR.of Tryd.func18 rfl rfl rfl rfl (Cw.seq (Cw.region (Lw.g (vS ([] : Str)) rfl (Lw.nil (Cw.seq (Cw.region (Lw.g (vS ([] : Str)) rfl (Lw.nil (Cw.seq (Cw.region (Lw.g (vI 0) rfl (Lw.nil (Cw.seq (Cw.seq (Cw.region (Lw.g (vI 0) rfl (Lw.nil (Cw.block ?_))))))))))))))))))
 obtain ⟨K5, hK5, hm⟩ := jn_e hm
 refine Cw.loop 8 50 [5, 6, 7] (fun m l w => ∃ (y1 : Str) (y2 : Int) (y3 : Int) (W4 : CW), W4.w = w ∧ Le [] W0 W4 ∧ l = [vS y1, vI y2, vI y3] ∧ Vm.spec_l17Who_l1 x0 x1 K5 m y1 y2 y3 = some r) (((x0.length : Int) - 0).toNat + 1) ⟨([] : Str), 0, 0, W0, rfl, Le.refl _ _, rfl, hm⟩ ?_
 rintro m6 _ _ σ ⟨y1, y2, y3, W4, rfl, l4, rfl, hm⟩
 obtain _ | m6 := m6
 ·cases hm
 unfold Vm.spec_l17Who_l1 at hm
 have a7 := l4.o
 refine Cw.seq (Cw.seq (Cw.region ?_))
 have s8 := h0.ul a7
 refine Lw.m (vI y3) rfl (Lw.m v0_ rfl (Lw.ln x0 s8 rfl (Lw.lt rfl (Lw.nil (Cw.cond (b := decide ((y3 : Int) < ((x0.length : Int) : Int))) rfl (fun hc9 => ?_) (fun hc9 => ?_))))))
 ·replace hm := bt hm hc9
  refine Cw.skip ?_
  obtain ⟨K13, hK13, hm⟩ := jn_e hm
  refine Cw.join 14 50 [5, 6] (fun l w => ∃ (y10 : Str) (y11 : Int) (W12 : CW), W12.w = w ∧ Le [] W4 W12 ∧ l = [vS y10, vI y11] ∧ K13 y10 y11 = some r) ?_ ?_
  ·rintro _ _ σ ⟨y10, y11, W12, rfl, l12, rfl, hm⟩
   rw [hK13] at hm
   refine Cw.region (Lw.m (vI y3) rfl (Lw.add rfl (Lw.g (vI (w64 (y3 + 1))) rfl (Lw.nil (⟨?_, m6, Nat.lt_succ_self m6, ⟨y10, y11, w64 (y3 + 1), W12, rfl, (l4.trans l12), rfl, hm⟩⟩)))))
   iterate 3 (refine Agree.up rfl ?_)
   iterate 2 (refine Agree.up rfl ?_)
   refine Agree.ov0 rfl ?_
   iterate 4 (refine Agree.up rfl ?_)
   iterate 3 (refine Agree.up rfl ?_)
   exact Agree.base
  ·refine Cw.block ?_
   obtain ⟨K17, hK17, hm⟩ := jn_e hm
   refine Cw.join 14 39 [39] (fun l w => ∃ (y15 : Bool) (W16 : CW), W16.w = w ∧ Le [] W4 W16 ∧ l = [vB y15] ∧ K17 y15 = some r) ?_ ?_
   ·rintro _ _ σ ⟨y15, W16, rfl, l16, rfl, hm⟩
    rw [hK17] at hm
    have a18 := a7.n l16
    refine Cw.cond (b := y15) rfl (fun hc19 => ?_) (fun hc19 => ?_)
    ·replace hm := bt hm hc19
     refine Cw.seq (Cw.region (Lw.m v0_ rfl (Lw.m (vI y3) rfl ?_)))
     obtain ⟨u20, e21, hm⟩ := ob hm
     have s22 := h0.ul a18
     refine Lw.r rfl (R.ix (α := Owner) s22 e21 rfl rfl rfl) (Lw.fa rfl (Lw.r rfl (R.ld rfl rfl (Owner.at1 (s22.at_ e21)).str) (Lw.g (vS u20.Who) rfl (Lw.nil (Cw.region (Lw.m v0_ rfl (Lw.m (vI y3) rfl ?_)))))))
     obtain ⟨u23, e24, hm⟩ := ob hm
     refine Lw.r rfl (R.ix (α := Owner) s22 e24 rfl rfl rfl) (Lw.fa rfl (Lw.r rfl (R.ld rfl rfl (Owner.at0 (s22.at_ e24)).str) (Lw.r rfl (R.lenS rfl) (Lw.g (vI (u23.Path.length : Int)) rfl (Lw.nil (⟨?_, ⟨u20.Who, (u23.Path.length : Int), W16, rfl, l16, rfl, hm⟩⟩))))))
     iterate 13 (refine Agree.up rfl ?_)
     iterate 1 (refine Agree.up rfl ?_)
     refine Agree.ov0 rfl ?_
     exact Agree.refl _
    ·replace hm := bf hm hc19
     refine Cw.skip (⟨?_, ⟨y1, y2, W16, rfl, l16, rfl, hm⟩⟩)
     iterate 1 (refine Agree.up rfl ?_)
     refine Agree.ov0 rfl ?_
     exact Agree.refl _
   ·refine Cw.region (Lw.m v0_ rfl (Lw.m (vI y3) rfl ?_))
    obtain ⟨u25, e26, hm⟩ := ob hm
    refine Lw.r rfl (R.ix (α := Owner) s8 e26 rfl rfl rfl) (Lw.fa rfl (Lw.r rfl (R.ld rfl rfl (Owner.at0 (s8.at_ e26)).str) (Lw.m (vS x1) rfl (Lw.seq rfl (Lw.m (vB (u25.Path == x1)) rfl (bsplit (u25.Path == x1) (fun hc27 => ?_) (fun hc27 => ?_)))))))
    ·replace hm := bt hm hc27
     refine Lw.pass' hc27 rfl rfl rfl rfl rfl rfl rfl (Lw.pass' hc27 rfl rfl rfl rfl rfl rfl rfl (Lw.pass' hc27 rfl rfl rfl rfl rfl rfl rfl (Lw.pass' hc27 rfl rfl rfl rfl rfl rfl rfl (Lw.pass' hc27 rfl rfl rfl rfl rfl rfl rfl (Lw.pass' hc27 rfl rfl rfl rfl rfl rfl rfl (Lw.pass' hc27 rfl rfl rfl rfl rfl rfl rfl (Lw.p hc27 (vB true) rfl (Lw.m (vB true) rfl (Lw.want' rfl rfl rfl rfl rfl (Lw.m v0_ rfl (Lw.want' rfl rfl rfl rfl rfl (Lw.m (vI y3) rfl (Lw.want' rfl rfl rfl rfl rfl ?_)))))))))))))
     obtain ⟨u28, e29, hm⟩ := ob hm
     refine Lw.r rfl (R.ix (α := Owner) s8 e29 rfl rfl rfl) (Lw.want' rfl rfl rfl rfl rfl (Lw.fa rfl (Lw.want' rfl rfl rfl rfl rfl (Lw.r rfl (R.ld rfl rfl (Owner.at0 (s8.at_ e29)).str) (Lw.want' rfl rfl rfl rfl rfl (Lw.r rfl (R.lenS rfl) (Lw.want' rfl rfl rfl rfl rfl (Lw.m (vI y2) rfl (Lw.want' rfl rfl rfl rfl rfl (Lw.gt rfl (Lw.p rfl (vB (decide ((y2 : Int) < ((u28.Path.length : Int) : Int)))) rfl (Lw.nil (⟨?_, ⟨decide ((y2 : Int) < ((u28.Path.length : Int) : Int)), W4, rfl, Le.refl _ _, rfl, hm⟩⟩)))))))))))))
     iterate 26 (refine Agree.up rfl ?_)
     exact Agree.refl _
    ·replace hm := bf hm hc27
     refine Lw.want' hc27 rfl rfl rfl rfl (Lw.m v0_ rfl (Lw.want' hc27 rfl rfl rfl rfl (Lw.m (vI y3) rfl (Lw.want' hc27 rfl rfl rfl rfl ?_))))
     obtain ⟨u30, e31, hm⟩ := ob hm
     refine Lw.r rfl (R.ix (α := Owner) s8 e31 rfl rfl rfl) (Lw.want' hc27 rfl rfl rfl rfl (Lw.fa rfl (Lw.want' hc27 rfl rfl rfl rfl (Lw.r rfl (R.ld rfl rfl (Owner.at0 (s8.at_ e31)).str) (Lw.want' hc27 rfl rfl rfl rfl (Lw.m (vS x1) rfl (Lw.want' hc27 rfl rfl rfl rfl ?_)))))))
     obtain ⟨z32, e33, hm⟩ := ob hm
     refine Lw.t rfl (T.call rfl (p35 (K := [0])   e33)) ?_
     rintro _ _ ⟨W34, rfl, l34, rfl⟩
     have a35 := a7.n l34
     refine Lw.p hc27 (vB z32) rfl (Lw.m (vB z32) rfl (bsplit z32 (fun hc36 => ?_) (fun hc36 => ?_)))
     ·replace hm := bt hm hc36
      refine Lw.want' hc36 rfl rfl rfl rfl (Lw.m v0_ rfl (Lw.want' hc36 rfl rfl rfl rfl (Lw.m (vI y3) rfl (Lw.want' hc36 rfl rfl rfl rfl ?_))))
      obtain ⟨u37, e38, hm⟩ := ob hm
      refine Lw.r rfl (R.ix (α := Owner) (h0.ul a35) e38 rfl rfl rfl) (Lw.want' hc36 rfl rfl rfl rfl (Lw.fa rfl (Lw.want' hc36 rfl rfl rfl rfl (Lw.r rfl (R.ld rfl rfl (Owner.at0 ((h0.ul a35).at_ e38)).str) (Lw.want' hc36 rfl rfl rfl rfl (Lw.r rfl (R.lenS rfl) (Lw.want' hc36 rfl rfl rfl rfl (Lw.m (vI y2) rfl (Lw.want' hc36 rfl rfl rfl rfl (Lw.gt rfl (Lw.p hc36 (vB (decide ((y2 : Int) < ((u37.Path.length : Int) : Int)))) rfl (Lw.nil (⟨?_, ⟨decide ((y2 : Int) < ((u37.Path.length : Int) : Int)), W34, rfl, l34, rfl, hm⟩⟩)))))))))))))
      iterate 26 (refine Agree.up rfl ?_)
      exact Agree.refl _
     ·replace hm := bf hm hc36
      refine Lw.pass' hc36 rfl rfl rfl rfl rfl rfl rfl (Lw.pass' hc36 rfl rfl rfl rfl rfl rfl rfl (Lw.pass' hc36 rfl rfl rfl rfl rfl rfl rfl (Lw.pass' hc36 rfl rfl rfl rfl rfl rfl rfl (Lw.pass' hc36 rfl rfl rfl rfl rfl rfl rfl (Lw.pass' hc36 rfl rfl rfl rfl rfl rfl rfl (Lw.pass' hc36 rfl rfl rfl rfl rfl rfl rfl (Lw.pass' hc36 rfl rfl rfl rfl rfl rfl rfl (Lw.p hc36 (vB false) rfl (Lw.nil (⟨?_, ⟨false, W34, rfl, l34, rfl, hm⟩⟩))))))))))
      iterate 26 (refine Agree.up rfl ?_)
      exact Agree.refl _
 ·replace hm := bf hm hc9
  refine Cw.exit ?_
  rw [hK5] at hm
  refine Cw.seq (Cw.region (Lw.m (vS y1) rfl (Lw.g (vS y1) rfl (Lw.nil ?_))))
  cases hm
  exact Cw.ret (ret1 rfl (Res.mk a7 rfl))

theorem p18 {W : CW} {K : List Nat} {x0 : List Vm.Owner} {v0_ : Value} {x1 : Str} {r : Str} (h0 : Rd W K [v0_] x0) (hm : Vm.spec_l17Who x0 x1 = some r) : CallR Tryd.prog 18 [v0_, vS x1].toArray W.w (Res W [] fun W' v => v = vS r) :=
 (c18 (V := W.view K []) (h0.view _) hm).ad (fk 0) fun _ _ e => e

theorem c6 {V : CW} {x0 : List Vm.Owner} {v0_ : Value} {x1 : Str} {r : Str} (h0 : Rd V [0] [v0_] x0) (hm : Vm.spec_OwnerOf x0 x1 = some r) : CallR Tryd.prog 6 [v0_, vS x1].toArray V.w (Res V LL fun Wf v => v = vS r) := by
 unfold Vm.spec_OwnerOf at hm
 obtain ⟨W0, hW0⟩ : ∃ W, W = V := ⟨V, rfl⟩
 subst hW0
 refine CallR.of Tryd.func6 rfl rfl rfl rfl (Cw.seq (Cw.region (Lw.g (vS ([] : Str)) rfl (Lw.nil (Cw.seq ?_)))))
 obtain ⟨K3, hK3, hm⟩ := jn_e hm
 refine Cw.join 5 12 [12] (fun l w => ∃ (y1 : Bool) (W2 : CW), W2.w = w ∧ Le [] W0 W2 ∧ l = [vB y1] ∧ K3 y1 = some r) ?_ ?_
 ·rintro _ _ σ ⟨y1, W2, rfl, l2, rfl, hm⟩
  rw [hK3] at hm
  have a4 := l2.o
  refine Cw.cond (b := y1) rfl (fun hc5 => ?_) (fun hc5 => ?_)
  ·replace hm := bt hm hc5
   refine Cw.seq (Cw.region (Lw.g (vS ([] : Str)) rfl (Lw.nil ?_)))
   cases hm
   exact Cw.ret (ret1 rfl (Res.mk a4 rfl))
  ·replace hm := bf hm hc5
   refine Cw.skip (Cw.seq (Cw.region (Lw.m v0_ rfl (Lw.m (vS x1) rfl ?_))))
   obtain ⟨z7, e8, hm⟩ := ob hm
   refine Lw.t rfl (T.call rfl (p18 (K := [0])  (h0.ul a4) e8)) ?_
   rintro _ _ ⟨W9, rfl, l9, rfl⟩
   have a10 := a4.n l9
   refine Lw.g (vS z7) rfl (Lw.nil ?_)
   cases hm
   exact Cw.ret (ret1 rfl (Res.mk a10 rfl))
 ·refine Cw.region (Lw.m v0_ rfl ?_)
  obtain ⟨z11, e12, hm⟩ := ob hm
  refine Lw.t rfl (T.call rfl (p16 (K := [0])  h0 e12)) ?_
  rintro _ _ ⟨W13, rfl, l13, rfl⟩
  refine Lw.r rfl (R.not rfl) (Lw.m (vB (!z11)) rfl (bsplit (!z11) (fun hc15 => ?_) (fun hc15 => ?_)))
  ·replace hm := bt hm hc15
   refine Lw.pass' hc15 rfl rfl rfl rfl rfl rfl rfl (Lw.pass' hc15 rfl rfl rfl rfl rfl rfl rfl (Lw.pass' hc15 rfl rfl rfl rfl rfl rfl rfl (Lw.p hc15 (vB true) rfl (Lw.nil (⟨?_, ⟨true, W13, rfl, l13, rfl, hm⟩⟩)))))
   iterate 8 (refine Agree.up rfl ?_)
   exact Agree.refl _
  ·replace hm := bf hm hc15
   refine Lw.want' hc15 rfl rfl rfl rfl (Lw.m (vS x1) rfl (Lw.want' hc15 rfl rfl rfl rfl ?_))
   obtain ⟨z16, e17, hm⟩ := ob hm
   refine Lw.t rfl (T.call rfl (p17 (K := [0])   e17)) ?_
   rintro _ _ ⟨W18, rfl, l18, rfl⟩
   refine Lw.want' hc15 rfl rfl rfl rfl (Lw.r rfl (R.not rfl) (Lw.p hc15 (vB (!z16)) rfl (Lw.nil (⟨?_, ⟨(!z16), W18, rfl, (l13.trans l18), rfl, hm⟩⟩))))
   iterate 8 (refine Agree.up rfl ?_)
   exact Agree.refl _

theorem p6 {W : CW} {K : List Nat} {x0 : List Vm.Owner} {v0_ : Value} {x1 : Str} {r : Str} (h0 : Rd W K [v0_] x0) (hm : Vm.spec_OwnerOf x0 x1 = some r) : CallR Tryd.prog 6 [v0_, vS x1].toArray W.w (Res W [] fun W' v => v = vS r) :=
 (c6 (V := W.view K []) (h0.view _) hm).ad (fk 0) fun _ _ e => e

theorem c31 {V : CW} {x0 : Int} {x1 : Int} {x2 : Int} {r : Bool}  (hm : Vm.impl_within x0 x1 x2 = some r) : CallR Tryd.prog 31 [vI x0, vI x1, vI x2].toArray V.w (Res V LL fun Wf v => v = vB r) := by
 unfold Vm.impl_within at hm
 obtain ⟨W0, hW0⟩ : ∃ W, W = V := ⟨V, rfl⟩
 subst hW0
 refine CallR.of Tryd.func31 rfl rfl rfl rfl (Cw.seq (Cw.region (Lw.g (vB false) rfl (Lw.nil ?_))))
 obtain ⟨K3, hK3, hm⟩ := jn_e hm
 refine Cw.join 7 14 [6] (fun l w => ∃ (y1 : Bool) (W2 : CW), W2.w = w ∧ Le [] W0 W2 ∧ l = [vB y1] ∧ K3 y1 = some r) ?_ ?_
 ·rintro _ _ σ ⟨y1, W2, rfl, l2, rfl, hm⟩
  rw [hK3] at hm
  have a4 := l2.o
  cases hm
  exact Cw.ret (ret1 rfl (Res.mk a4 rfl))
 ·refine Cw.region (Lw.m (vI x1) rfl (Lw.m (vI x0) rfl (Lw.le rfl (Lw.m (vB (decide ((x1 : Int) ≤ (x0 : Int)))) rfl (bsplit (decide ((x1 : Int) ≤ (x0 : Int))) (fun hc5 => ?_) (fun hc5 => ?_))))))
  ·replace hm := bt hm hc5
   refine Lw.want' hc5 rfl rfl rfl rfl (Lw.m (vI x0) rfl (Lw.want' hc5 rfl rfl rfl rfl (Lw.m (vI x2) rfl (Lw.want' hc5 rfl rfl rfl rfl (Lw.le rfl (Lw.p hc5 (vB (decide ((x0 : Int) ≤ (x2 : Int)))) rfl (Lw.g (vB (decide ((x0 : Int) ≤ (x2 : Int)))) rfl (Lw.nil (⟨?_, ⟨decide ((x0 : Int) ≤ (x2 : Int)), W0, rfl, Le.refl _ _, rfl, hm⟩⟩)))))))))
   iterate 9 (refine Agree.up rfl ?_)
   exact Agree.refl _
  ·replace hm := bf hm hc5
   refine Lw.pass' hc5 rfl rfl rfl rfl rfl rfl rfl (Lw.pass' hc5 rfl rfl rfl rfl rfl rfl rfl (Lw.pass' hc5 rfl rfl rfl rfl rfl rfl rfl (Lw.p hc5 (vB false) rfl (Lw.g (vB false) rfl (Lw.nil (⟨?_, ⟨false, W0, rfl, Le.refl _ _, rfl, hm⟩⟩))))))
   iterate 9 (refine Agree.up rfl ?_)
   exact Agree.refl _

theorem p31 {W : CW} {K : List Nat} {x0 : Int} {x1 : Int} {x2 : Int} {r : Bool}  (hm : Vm.impl_within x0 x1 x2 = some r) : CallR Tryd.prog 31 [vI x0, vI x1, vI x2].toArray W.w (Res W [] fun W' v => v = vB r) :=
 (c31 (V := W.view K [])  hm).ad (fk 0) fun _ _ e => e

theorem c41 {V : CW} {x0 : Byte} {r : Bool}  (hm : Vm.impl_wordByte x0 = some r) : CallR Tryd.prog 41 [.int .u8 (UInt8.toNat x0 : Int)].toArray V.w (Res V LL fun Wf v => v = vB r) := by
 unfold Vm.impl_wordByte at hm
 obtain ⟨W0, hW0⟩ : ∃ W, W = V := ⟨V, rfl⟩
 subst hW0
 refine CallR.of Tryd.func41 rfl rfl rfl rfl (Cw.seq (Cw.region (Lw.g (vB false) rfl (Lw.nil ?_))))
 obtain ⟨K3, hK3, hm⟩ := jn_e hm
 refine Cw.join 3 16 [2] (fun l w => ∃ (y1 : Bool) (W2 : CW), W2.w = w ∧ Le [] W0 W2 ∧ l = [vB y1] ∧ K3 y1 = some r) ?_ ?_
 ·rintro _ _ σ ⟨y1, W2, rfl, l2, rfl, hm⟩
  rw [hK3] at hm
  have a4 := l2.o
  cases hm
  exact Cw.ret (ret1 rfl (Res.mk a4 rfl))
 ·refine Cw.region (Lw.m (.int .u8 (UInt8.toNat x0 : Int)) rfl (Lw.ge rfl (Lw.m (vB (decide ((97 : Int) ≤ ((UInt8.toNat x0 : Int) : Int)))) rfl (bsplit (decide ((97 : Int) ≤ ((UInt8.toNat x0 : Int) : Int))) (fun hc5 => ?_) (fun hc5 => ?_)))))
  ·replace hm := bt hm hc5
   refine Lw.want' hc5 rfl rfl rfl rfl (Lw.m (.int .u8 (UInt8.toNat x0 : Int)) rfl (Lw.want' hc5 rfl rfl rfl rfl (Lw.le rfl (Lw.p hc5 (vB (decide (((UInt8.toNat x0 : Int) : Int) ≤ (122 : Int)))) rfl (Lw.m (vB (decide (((UInt8.toNat x0 : Int) : Int) ≤ (122 : Int)))) rfl (bsplit (decide (((UInt8.toNat x0 : Int) : Int) ≤ (122 : Int))) (fun hc6 => ?_) (fun hc6 => ?_)))))))
   ·replace hm := bt hm hc6
    refine Lw.pass' hc6 rfl rfl rfl rfl rfl rfl rfl (Lw.pass' hc6 rfl rfl rfl rfl rfl rfl rfl (Lw.pass' hc6 rfl rfl rfl rfl rfl rfl rfl (Lw.passU rfl rfl rfl rfl rfl rfl (Lw.passU rfl rfl rfl rfl rfl rfl (Lw.pass' hc6 rfl rfl rfl rfl rfl rfl rfl (Lw.p hc6 (vB true) rfl (Lw.g (vB true) rfl (Lw.nil (⟨?_, ⟨true, W0, rfl, Le.refl _ _, rfl, hm⟩⟩)))))))))
    iterate 15 (refine Agree.up rfl ?_)
    exact Agree.refl _
   ·replace hm := bf hm hc6
    refine Lw.want' hc6 rfl rfl rfl rfl (Lw.m (.int .u8 (UInt8.toNat x0 : Int)) rfl (Lw.want' hc6 rfl rfl rfl rfl (Lw.ge rfl (Lw.want' hc6 rfl rfl rfl rfl (Lw.m (vB (decide ((48 : Int) ≤ ((UInt8.toNat x0 : Int) : Int)))) rfl (bsplit (decide ((48 : Int) ≤ ((UInt8.toNat x0 : Int) : Int))) (fun hc7 => ?_) (fun hc7 => ?_)))))))
    ·replace hm := bt hm hc7
     refine Lw.want' hc7 rfl rfl rfl rfl (Lw.m (.int .u8 (UInt8.toNat x0 : Int)) rfl (Lw.want' hc7 rfl rfl rfl rfl (Lw.le rfl (Lw.want' hc6 rfl rfl rfl rfl (Lw.p hc7 (vB (decide (((UInt8.toNat x0 : Int) : Int) ≤ (57 : Int)))) rfl (Lw.p hc6 (vB (decide (((UInt8.toNat x0 : Int) : Int) ≤ (57 : Int)))) rfl (Lw.g (vB (decide (((UInt8.toNat x0 : Int) : Int) ≤ (57 : Int)))) rfl (Lw.nil (⟨?_, ⟨decide (((UInt8.toNat x0 : Int) : Int) ≤ (57 : Int)), W0, rfl, Le.refl _ _, rfl, hm⟩⟩)))))))))
     iterate 15 (refine Agree.up rfl ?_)
     exact Agree.refl _
    ·replace hm := bf hm hc7
     refine Lw.pass' hc7 rfl rfl rfl rfl rfl rfl rfl (Lw.pass' hc7 rfl rfl rfl rfl rfl rfl rfl (Lw.want' hc6 rfl rfl rfl rfl (Lw.p hc7 (vB false) rfl (Lw.p hc6 (vB false) rfl (Lw.g (vB false) rfl (Lw.nil (⟨?_, ⟨false, W0, rfl, Le.refl _ _, rfl, hm⟩⟩)))))))
     iterate 15 (refine Agree.up rfl ?_)
     exact Agree.refl _
  ·replace hm := bf hm hc5
   refine Lw.pass' hc5 rfl rfl rfl rfl rfl rfl rfl (Lw.pass' hc5 rfl rfl rfl rfl rfl rfl rfl (Lw.p hc5 (vB false) rfl (Lw.m (vB false) rfl (Lw.want' rfl rfl rfl rfl rfl (Lw.m (.int .u8 (UInt8.toNat x0 : Int)) rfl (Lw.want' rfl rfl rfl rfl rfl (Lw.ge rfl (Lw.want' rfl rfl rfl rfl rfl (Lw.m (vB (decide ((48 : Int) ≤ ((UInt8.toNat x0 : Int) : Int)))) rfl (bsplit (decide ((48 : Int) ≤ ((UInt8.toNat x0 : Int) : Int))) (fun hc8 => ?_) (fun hc8 => ?_)))))))))))
   ·replace hm := bt hm hc8
    refine Lw.want' hc8 rfl rfl rfl rfl (Lw.m (.int .u8 (UInt8.toNat x0 : Int)) rfl (Lw.want' hc8 rfl rfl rfl rfl (Lw.le rfl (Lw.want' rfl rfl rfl rfl rfl (Lw.p hc8 (vB (decide (((UInt8.toNat x0 : Int) : Int) ≤ (57 : Int)))) rfl (Lw.p rfl (vB (decide (((UInt8.toNat x0 : Int) : Int) ≤ (57 : Int)))) rfl (Lw.g (vB (decide (((UInt8.toNat x0 : Int) : Int) ≤ (57 : Int)))) rfl (Lw.nil (⟨?_, ⟨decide (((UInt8.toNat x0 : Int) : Int) ≤ (57 : Int)), W0, rfl, Le.refl _ _, rfl, hm⟩⟩)))))))))
    iterate 15 (refine Agree.up rfl ?_)
    exact Agree.refl _
   ·replace hm := bf hm hc8
    refine Lw.pass' hc8 rfl rfl rfl rfl rfl rfl rfl (Lw.pass' hc8 rfl rfl rfl rfl rfl rfl rfl (Lw.want' rfl rfl rfl rfl rfl (Lw.p hc8 (vB false) rfl (Lw.p rfl (vB false) rfl (Lw.g (vB false) rfl (Lw.nil (⟨?_, ⟨false, W0, rfl, Le.refl _ _, rfl, hm⟩⟩)))))))
    iterate 15 (refine Agree.up rfl ?_)
    exact Agree.refl _

theorem p41 {W : CW} {K : List Nat} {x0 : Byte} {r : Bool}  (hm : Vm.impl_wordByte x0 = some r) : CallR Tryd.prog 41 [.int .u8 (UInt8.toNat x0 : Int)].toArray W.w (Res W [] fun W' v => v = vB r) :=
 (c41 (V := W.view K [])  hm).ad (fk 0) fun _ _ e => e

end Go.Sx
