/- Walks: each function answers as its model, printed by a program of ours. Conditions: the arguments read as they are given. -/
import Derived.Test.YtmjjhnahdmlmaaaDoorXTs
import Derived.Test.YtmjjhnahdmlmaaaDoorXMd
namespace Go.Sx
open Go Go.Proofs Go.Vm Rp
set_option linter.unusedVariables false
set_option linter.unusedSimpArgs false

theorem c41 {V : CW} {x0 : List Int} {v0_ : Value} {x1 : Int} {r : Int × (List Int)} (h0 : Ow V 2 [] [v0_] x0) (hm : Vm.laws_markIntS x0 x1 = some r) : CallR Tryd.prog 41 [v0_, vI x1].toArray V.w (Res V LL fun Wf v => v = vI r.1 ∧ Ow Wf 2 [] [v0_] r.2) := by
 unfold Vm.laws_markIntS at hm
 obtain ⟨W0, hW0⟩ : ∃ W, W = V := ⟨V, rfl⟩
 subst hW0
 refine CallR.of Tryd.func41 rfl rfl rfl rfl (Cw.seq (Cw.region (Lw.g (vI 0) rfl (Lw.nil (Cw.seq (Cw.seq (Cw.region (Lw.g (vI 0) rfl (Lw.nil (Cw.block ?_))))))))))
 obtain ⟨K6, hK6, hm⟩ := jn_e hm
 refine Cw.loop 6 17 [1, 5] (fun m l w => ∃ (y1 : Int) (y2 : Int) (y3 : List Int) (W5 : CW), W5.w = w ∧ Le [2] W0 W5 ∧ l = [vI y1, vI y2] ∧ Ow W5 2 [] [v0_] y3 ∧ Vm.laws_markIntS_l1 K6 m y1 y2 y3 = some r) (((x0.length : Int) - 0).toNat + 1) ⟨x1, 0, x0, W0, rfl, Le.refl _ _, rfl, h0, hm⟩ ?_
 rintro m7 _ _ σ ⟨y1, y2, y3, W5, rfl, l5, rfl, o4, hm⟩
 obtain _ | m7 := m7
 ·cases hm
 unfold Vm.laws_markIntS_l1 at hm
 have a8 := l5.s rfl
 refine Cw.seq (Cw.seq (Cw.region (Lw.m (vI y2) rfl (Lw.m v0_ rfl (Lw.ln y3 o4.rd rfl (Lw.lt rfl (Lw.nil (Cw.cond (b := decide ((y2 : Int) < ((y3.length : Int) : Int))) rfl (fun hc9 => ?_) (fun hc9 => ?_)))))))))
 ·replace hm := bt hm hc9
  refine Cw.skip (Cw.seq (Cw.block (Cw.seq (Cw.region (Lw.m v0_ rfl (Lw.m (vI y2) rfl (Lw.m (vI y1) rfl ?_)))))))
  obtain ⟨u10, e11, hm⟩ := ob hm
  refine Lw.r rfl (R.ix (α := Int) o4.rd e11 rfl rfl rfl) ?_
  obtain ⟨q13, e14, hm⟩ := ob hm
  refine Lw.u (T.stS (K' := []) o4 (rdI _) e14 rfl rfl rfl) ?_
  rintro _ _ ⟨W12, rfl, l12, o12⟩
  refine Lw.nil (Cw.region (Lw.m (vI y1) rfl (Lw.add rfl (Lw.g (vI (w64 (y1 + 1))) rfl (Lw.nil (Cw.region (Lw.m (vI y2) rfl (Lw.add rfl (Lw.g (vI (w64 (y2 + 1))) rfl (Lw.nil (⟨?_, m7, Nat.lt_succ_self m7, ⟨w64 (y1 + 1), w64 (y2 + 1), q13, W12, rfl, (l5.trans l12), rfl, o12, hm⟩⟩)))))))))))
  iterate 16 (refine .u ?_)
  exact Agree.base
 ·replace hm := bf hm hc9
  refine Cw.exit ?_
  rw [hK6] at hm
  refine Cw.seq (Cw.region (Lw.m (vI y1) rfl (Lw.g (vI y1) rfl (Lw.nil ?_))))
  cases hm
  exact Cw.ret (ret1 rfl (Res.mk a8 ⟨rfl, o4⟩))

theorem p41 {W : CW} {K : List Nat} {x0 : List Int} {v0_ : Value} {x1 : Int} {c0 : Nat} {r : Int × (List Int)} (h0 : Ow W c0 [] [v0_] x0) (hJ : okJ K [c0] = true) (hm : Vm.laws_markIntS x0 x1 = some r) : CallR Tryd.prog 41 [v0_, vI x1].toArray W.w (Res W [c0] fun W' v => v = vI r.1 ∧ Ow W' c0 [] [v0_] r.2) :=
 CallR.adJ (J := [c0]) (fun c => bif Nat.beq c 0 then 0 else bif Nat.beq c 2 then c0 else 0) (c41 (V := W.view K [c0]) (h0.viewJ 0 hJ) hm) fun _ _ ⟨e, f0⟩ => ⟨e, Ow.backJ 0 f0 rfl⟩

theorem c76 {V : CW} {x0 : Int} {r : Str}  (hm : Vm.laws_markText x0 = some r) : CallR Tryd.prog 76 [vI x0].toArray V.w (Res V LL fun Wf v => v = vS r) := by
 unfold Vm.laws_markText at hm
 obtain ⟨W0, hW0⟩ : ∃ W, W = V := ⟨V, rfl⟩
 subst hW0
 refine CallR.of Tryd.func76 rfl rfl rfl rfl (Cw.seq (Cw.region (Lw.g (vS ([] : Str)) rfl (Lw.nil (Cw.seq (Cw.seq (Cw.region (Lw.m (vI x0) rfl (Lw.le rfl (Lw.nil (Cw.cond (b := decide ((x0 : Int) ≤ (0 : Int))) rfl (fun hc1 => ?_) (fun hc1 => ?_))))))))))))
 ·replace hm := bt hm hc1
  refine Cw.seq (Cw.region (Lw.g (vS ([109, 48] : Str)) rfl (Lw.nil ?_)))
  cases hm
  exact Cw.ret (ret1 rfl (Res.mk (Le.refl _ _) rfl))
 ·replace hm := bf hm hc1
  refine Cw.skip (Cw.seq (Cw.region (Lw.g (vS ([] : Str)) rfl (Lw.nil (Cw.seq (Cw.block ?_))))))
  obtain ⟨K5, hK5, hm⟩ := jn_e hm
  refine Cw.loop 6 17 [0, 3] (fun m l w => ∃ (y2 : Int) (y3 : Str) (W4 : CW), W4.w = w ∧ Le [] W0 W4 ∧ l = [vI y2, vS y3] ∧ Vm.laws_markText_l1 K5 m y2 y3 = some r) ((x0 - 0).toNat + 1) ⟨x0, ([] : Str), W0, rfl, Le.refl _ _, rfl, hm⟩ ?_
  rintro m6 _ _ σ ⟨y2, y3, W4, rfl, l4, rfl, hm⟩
  obtain _ | m6 := m6
  ·cases hm
  unfold Vm.laws_markText_l1 at hm
  have a7 := l4.o
  refine Cw.seq (Cw.seq (Cw.region (Lw.m (vI y2) rfl (Lw.gt rfl (Lw.nil (Cw.cond (b := decide ((0 : Int) < (y2 : Int))) rfl (fun hc8 => ?_) (fun hc8 => ?_)))))))
  ·replace hm := bt hm hc8
   refine Cw.skip (Cw.block (Cw.seq (Cw.region (Lw.m (vI y2) rfl (Lw.r rfl (R.rem rfl rfl (by decide)) (Lw.add rfl (Lw.r rfl (R.cv8 rfl rfl) (Lw.t rfl (T.bsS (α := Byte) (xs := [(by8 (w64 (48 + (Int.tmod y2 10))))]) 2 [] (W := W4) [.int .u8 (UInt8.toNat (by8 (w64 (48 + (Int.tmod y2 10)))) : Int)] (Each.cons ((rdY _)) Each.nil) rfl) ?_))))))))
   rintro v9 _ ⟨W9, rfl, l9, o9⟩
   refine Lw.r rfl (R.cvB (xs := ([(by8 (w64 (48 + (Int.tmod y2 10))))] : List Byte)) o9.rd rfl (fun h => h.1)) (Lw.m (vS y3) rfl ?_)
   obtain ⟨q11, e12, hm⟩ := ob hm
   refine Lw.r rfl (R.sad e12 rfl rfl) (Lw.g (vS q11) rfl (Lw.nil (Cw.region (Lw.m (vI y2) rfl (Lw.r rfl (R.quo rfl rfl (by decide)) (Lw.g (vI (w64 (Int.tdiv y2 10))) rfl (Lw.nil (⟨?_, m6, Nat.lt_succ_self m6, ⟨w64 (Int.tdiv y2 10), q11, W9, rfl, (l4.trans l9), rfl, hm⟩⟩))))))))
   iterate 16 (refine .u ?_)
   exact Agree.base
  ·replace hm := bf hm hc8
   refine Cw.exit ?_
   rw [hK5] at hm
   refine Cw.seq (Cw.region (Lw.m (vS y3) rfl ?_))
   obtain ⟨q13, e14, hm⟩ := ob hm
   refine Lw.r rfl (R.sad e14 rfl rfl) (Lw.g (vS q13) rfl (Lw.nil ?_))
   cases hm
   exact Cw.ret (ret1 rfl (Res.mk a7 rfl))

theorem p76 {W : CW} {K : List Nat} {x0 : Int} {r : Str}  (hm : Vm.laws_markText x0 = some r) : CallR Tryd.prog 76 [vI x0].toArray W.w (Res W [] fun W' v => v = vS r) :=
 (c76 (V := W.view K [])  hm).ad (fk 0) fun _ _ e => e

theorem c77 {V : CW} {x0 : List Str} {v0_ : Value} {x1 : Int} {r : Int × (List Str)} (h0 : Ow V 2 [] [v0_] x0) (hm : Vm.laws_markStringS x0 x1 = some r) : CallR Tryd.prog 77 [v0_, vI x1].toArray V.w (Res V LL fun Wf v => v = vI r.1 ∧ Ow Wf 2 [] [v0_] r.2) := by
 unfold Vm.laws_markStringS at hm
 obtain ⟨W0, hW0⟩ : ∃ W, W = V := ⟨V, rfl⟩
 subst hW0
 refine CallR.of Tryd.func77 rfl rfl rfl rfl (Cw.seq (Cw.region (Lw.g (vI 0) rfl (Lw.nil (Cw.seq (Cw.seq (Cw.region (Lw.g (vI 0) rfl (Lw.nil (Cw.block ?_))))))))))
 obtain ⟨K6, hK6, hm⟩ := jn_e hm
 refine Cw.loop 6 18 [1, 5] (fun m l w => ∃ (y1 : Int) (y2 : Int) (y3 : List Str) (W5 : CW), W5.w = w ∧ Le [2] W0 W5 ∧ l = [vI y1, vI y2] ∧ Ow W5 2 [] [v0_] y3 ∧ Vm.laws_markStringS_l1 K6 m y1 y2 y3 = some r) (((x0.length : Int) - 0).toNat + 1) ⟨x1, 0, x0, W0, rfl, Le.refl _ _, rfl, h0, hm⟩ ?_
 rintro m7 _ _ σ ⟨y1, y2, y3, W5, rfl, l5, rfl, o4, hm⟩
 obtain _ | m7 := m7
 ·cases hm
 unfold Vm.laws_markStringS_l1 at hm
 have a8 := l5.s rfl
 refine Cw.seq (Cw.seq (Cw.region (Lw.m (vI y2) rfl (Lw.m v0_ rfl (Lw.ln y3 o4.rd rfl (Lw.lt rfl (Lw.nil (Cw.cond (b := decide ((y2 : Int) < ((y3.length : Int) : Int))) rfl (fun hc9 => ?_) (fun hc9 => ?_)))))))))
 ·replace hm := bt hm hc9
  refine Cw.skip (Cw.seq (Cw.block (Cw.seq (Cw.region (Lw.m v0_ rfl (Lw.m (vI y2) rfl (Lw.m (vI y1) rfl ?_)))))))
  obtain ⟨z10, e11, hm⟩ := ob hm
  refine Lw.t rfl (T.call rfl (p76 (K := [0])   e11)) ?_
  rintro _ _ ⟨W12, rfl, l12, rfl⟩
  obtain ⟨u15, e16, hm⟩ := ob hm
  refine Lw.r rfl (R.ix (α := Str) (o4.up l12 rfl).rd e16 rfl rfl rfl) ?_
  obtain ⟨q18, e19, hm⟩ := ob hm
  refine Lw.u (T.stS (K' := []) (o4.up l12 rfl) (rdS _) e19 rfl rfl rfl) ?_
  rintro _ _ ⟨W17, rfl, l17, o17⟩
  refine Lw.nil (Cw.region (Lw.m (vI y1) rfl (Lw.add rfl (Lw.g (vI (w64 (y1 + 1))) rfl (Lw.nil (Cw.region (Lw.m (vI y2) rfl (Lw.add rfl (Lw.g (vI (w64 (y2 + 1))) rfl (Lw.nil (⟨?_, m7, Nat.lt_succ_self m7, ⟨w64 (y1 + 1), w64 (y2 + 1), q18, W17, rfl, (l5.trans ((l12.sub rfl).trans l17)), rfl, o17, hm⟩⟩)))))))))))
  iterate 17 (refine .u ?_)
  exact Agree.base
 ·replace hm := bf hm hc9
  refine Cw.exit ?_
  rw [hK6] at hm
  refine Cw.seq (Cw.region (Lw.m (vI y1) rfl (Lw.g (vI y1) rfl (Lw.nil ?_))))
  cases hm
  exact Cw.ret (ret1 rfl (Res.mk a8 ⟨rfl, o4⟩))

theorem p77 {W : CW} {K : List Nat} {x0 : List Str} {v0_ : Value} {x1 : Int} {c0 : Nat} {r : Int × (List Str)} (h0 : Ow W c0 [] [v0_] x0) (hJ : okJ K [c0] = true) (hm : Vm.laws_markStringS x0 x1 = some r) : CallR Tryd.prog 77 [v0_, vI x1].toArray W.w (Res W [c0] fun W' v => v = vI r.1 ∧ Ow W' c0 [] [v0_] r.2) :=
 CallR.adJ (J := [c0]) (fun c => bif Nat.beq c 0 then 0 else bif Nat.beq c 2 then c0 else 0) (c77 (V := W.view K [c0]) (h0.viewJ 0 hJ) hm) fun _ _ ⟨e, f0⟩ => ⟨e, Ow.backJ 0 f0 rfl⟩

theorem c29 {V : CW} {x0 : List Vm.File} {v0_ : Value} {x1 : Int} {r : Int × (List Vm.File)} (h0 : Ow V 2 [] [v0_] x0) (hm : Vm.laws_markFileS x0 x1 = some r) : CallR Tryd.prog 29 [v0_, vI x1].toArray V.w (Res V LL fun Wf v => v = vI r.1 ∧ Ow Wf 2 [] [v0_] r.2) := by
 unfold Vm.laws_markFileS at hm
 obtain ⟨W0, hW0⟩ : ∃ W, W = V := ⟨V, rfl⟩
 subst hW0
 refine CallR.of Tryd.func29 rfl rfl rfl rfl (Cw.seq (Cw.region (Lw.g (vI 0) rfl (Lw.nil (Cw.seq (Cw.seq (Cw.region (Lw.g (vI 0) rfl (Lw.nil (Cw.block ?_))))))))))
 obtain ⟨K6, hK6, hm⟩ := jn_e hm
 refine Cw.loop 6 26 [1, 5] (fun m l w => ∃ (y1 : Int) (y2 : Int) (y3 : List Vm.File) (W5 : CW), W5.w = w ∧ Le [2, 3] W0 W5 ∧ l = [vI y1, vI y2] ∧ Ow W5 2 [] [v0_] y3 ∧ Vm.laws_markFileS_l1 K6 m y1 y2 y3 = some r) (((x0.length : Int) - 0).toNat + 1) ⟨x1, 0, x0, W0, rfl, Le.refl _ _, rfl, h0, hm⟩ ?_
 rintro m7 _ _ σ ⟨y1, y2, y3, W5, rfl, l5, rfl, o4, hm⟩
 obtain _ | m7 := m7
 ·cases hm
 unfold Vm.laws_markFileS_l1 at hm
 have a8 := l5.s rfl
 refine Cw.seq (Cw.seq (Cw.region (Lw.m (vI y2) rfl (Lw.m v0_ rfl (Lw.ln y3 o4.rd rfl (Lw.lt rfl (Lw.nil (Cw.cond (b := decide ((y2 : Int) < ((y3.length : Int) : Int))) rfl (fun hc9 => ?_) (fun hc9 => ?_)))))))))
 ·replace hm := bt hm hc9
  refine Cw.skip (Cw.seq (Cw.block (Cw.seq (Cw.region (Lw.m v0_ rfl (Lw.m (vI y2) rfl (Lw.m (vI y1) rfl ?_)))))))
  obtain ⟨z10, e11, hm⟩ := ob hm
  refine Lw.t rfl (T.call rfl (p76 (K := [0])   e11)) ?_
  rintro _ _ ⟨W12, rfl, l12, rfl⟩
  obtain ⟨u15, e16, hm⟩ := ob hm
  refine Lw.r rfl (R.ix (α := File) (o4.up l12 rfl).rd e16 rfl rfl rfl) (Lw.fa rfl ?_)
  obtain ⟨q18, e19, hm⟩ := ob hm
  refine Lw.u (T.stH (α := File) (β := Str) (J := []) (Ow.hole (α := File) (β := Str) (jf := 0) (o4.up l12 rfl) e16) (OwS.atm (K := []) (rdS _)) e19 rfl rfl rfl rfl) ?_
  rintro _ _ ⟨W17, rfl, l17, o17⟩
  refine Lw.nil (Cw.seq (Cw.region (Lw.m (vI y1) rfl (Lw.add rfl (Lw.g (vI (w64 (y1 + 1))) rfl (Lw.nil (Cw.region (Lw.m v0_ rfl (Lw.m (vI y2) rfl ?_)))))))))
  obtain ⟨u21, e22, hm⟩ := ob hm
  refine Lw.r rfl (R.ix (α := File) o17.rd e22 rfl rfl rfl) (Lw.fa rfl ?_)
  obtain ⟨v23, c24, r25⟩ := (File.at1 (o17.rd.at_ e22)).cell rfl
  refine Lw.r rfl (R.ld rfl rfl c24) (Lw.m (vI (w64 (y1 + 1))) rfl ?_)
  obtain ⟨W26, ew26, l26, o26, gb26⟩ := Ow.lend (α := File) (β := List Str) (j := 3) (jf := 1) o17 e22 c24 rfl
  rw [← ew26]
  obtain ⟨z28, e29, hm⟩ := ob hm
  refine Lw.t rfl (T.call rfl (p77 (K := [0])  (c0 := 3) o26 rfl e29)) ?_
  rintro _ _ ⟨W30, rfl, l30, ⟨rfl, f30_0⟩⟩
  obtain ⟨W33, ew33, l33, q33, eq33, o33⟩ := gb26 _ _ l30 f30_0
  obtain ⟨q33_, eqm33, hm⟩ := ob hm
  obtain rfl : q33_ = q33 := Option.some.inj (eqm33.symm.trans eq33)
  rw [← ew33]
  refine Lw.g (vI z28.1) rfl (Lw.nil (Cw.region (Lw.m (vI y2) rfl (Lw.add rfl (Lw.g (vI (w64 (y2 + 1))) rfl (Lw.nil (⟨?_, m7, Nat.lt_succ_self m7, ⟨z28.1, w64 (y2 + 1), q33_, W33, rfl, (l5.trans ((l12.sub rfl).trans ((l17.sub rfl).trans ((l26.sub rfl).trans ((l30.sub rfl).trans l33))))), rfl, o33, hm⟩⟩)))))))
  iterate 26 (refine .u ?_)
  exact Agree.base
 ·replace hm := bf hm hc9
  refine Cw.exit ?_
  rw [hK6] at hm
  refine Cw.seq (Cw.region (Lw.m (vI y1) rfl (Lw.g (vI y1) rfl (Lw.nil ?_))))
  cases hm
  exact Cw.ret (ret1 rfl (Res.mk a8 ⟨rfl, o4⟩))

theorem p29 {W : CW} {K : List Nat} {x0 : List Vm.File} {v0_ : Value} {x1 : Int} {c0 : Nat} {r : Int × (List Vm.File)} (h0 : Ow W c0 [] [v0_] x0) (hJ : okJ K [c0] = true) (hm : Vm.laws_markFileS x0 x1 = some r) : CallR Tryd.prog 29 [v0_, vI x1].toArray W.w (Res W [c0] fun W' v => v = vI r.1 ∧ Ow W' c0 [] [v0_] r.2) :=
 CallR.adJ (J := [c0]) (fun c => bif Nat.beq c 0 then 0 else bif Nat.beq c 2 then c0 else 0) (c29 (V := W.view K [c0]) (h0.viewJ 0 hJ) hm) fun _ _ ⟨e, f0⟩ => ⟨e, Ow.backJ 0 f0 rfl⟩

theorem c42 {V : CW} {x0 : List Vm.Commit} {v0_ : Value} {x1 : Int} {r : Int × (List Vm.Commit)} (h0 : Ow V 2 [] [v0_] x0) (hm : Vm.laws_markCommitS x0 x1 = some r) : CallR Tryd.prog 42 [v0_, vI x1].toArray V.w (Res V LL fun Wf v => v = vI r.1 ∧ Ow Wf 2 [] [v0_] r.2) := by
 unfold Vm.laws_markCommitS at hm
 obtain ⟨W0, hW0⟩ : ∃ W, W = V := ⟨V, rfl⟩
 subst hW0
 refine CallR.of Tryd.func42 rfl rfl rfl rfl (Cw.seq (Cw.region (Lw.g (vI 0) rfl (Lw.nil (Cw.seq (Cw.seq (Cw.region (Lw.g (vI 0) rfl (Lw.nil (Cw.block ?_))))))))))
 obtain ⟨K6, hK6, hm⟩ := jn_e hm
 refine Cw.loop 6 33 [1, 5] (fun m l w => ∃ (y1 : Int) (y2 : Int) (y3 : List Vm.Commit) (W5 : CW), W5.w = w ∧ Le [2, 3, 4] W0 W5 ∧ l = [vI y1, vI y2] ∧ Ow W5 2 [] [v0_] y3 ∧ Vm.laws_markCommitS_l1 K6 m y1 y2 y3 = some r) (((x0.length : Int) - 0).toNat + 1) ⟨x1, 0, x0, W0, rfl, Le.refl _ _, rfl, h0, hm⟩ ?_
 rintro m7 _ _ σ ⟨y1, y2, y3, W5, rfl, l5, rfl, o4, hm⟩
 obtain _ | m7 := m7
 ·cases hm
 unfold Vm.laws_markCommitS_l1 at hm
 have a8 := l5.s rfl
 refine Cw.seq (Cw.seq (Cw.region (Lw.m (vI y2) rfl (Lw.m v0_ rfl (Lw.ln y3 o4.rd rfl (Lw.lt rfl (Lw.nil (Cw.cond (b := decide ((y2 : Int) < ((y3.length : Int) : Int))) rfl (fun hc9 => ?_) (fun hc9 => ?_)))))))))
 ·replace hm := bt hm hc9
  refine Cw.skip (Cw.seq (Cw.block (Cw.seq (Cw.region (Lw.m v0_ rfl (Lw.m (vI y2) rfl ?_))))))
  obtain ⟨u10, e11, hm⟩ := ob hm
  refine Lw.r rfl (R.ix (α := Commit) o4.rd e11 rfl rfl rfl) (Lw.fa rfl ?_)
  obtain ⟨v12, c13, r14⟩ := (Commit.at0 (o4.rd.at_ e11)).cell rfl
  refine Lw.r rfl (R.ld rfl rfl c13) (Lw.m (vI y1) rfl ?_)
  obtain ⟨W15, ew15, l15, o15, gb15⟩ := Ow.lend (α := Commit) (β := List Int) (j := 3) (jf := 0) o4 e11 c13 rfl
  rw [← ew15]
  obtain ⟨z17, e18, hm⟩ := ob hm
  refine Lw.t rfl (T.call rfl (p41 (K := [0])  (c0 := 3) o15 rfl e18)) ?_
  rintro _ _ ⟨W19, rfl, l19, ⟨rfl, f19_0⟩⟩
  obtain ⟨W22, ew22, l22, q22, eq22, o22⟩ := gb15 _ _ l19 f19_0
  obtain ⟨q22_, eqm22, hm⟩ := ob hm
  obtain rfl : q22_ = q22 := Option.some.inj (eqm22.symm.trans eq22)
  rw [← ew22]
  refine Lw.g (vI z17.1) rfl (Lw.nil (Cw.seq (Cw.region (Lw.m v0_ rfl (Lw.m (vI y2) rfl (Lw.m (vI z17.1) rfl ?_))))))
  obtain ⟨z24, e25, hm⟩ := ob hm
  refine Lw.t rfl (T.call rfl (p76 (K := [0])   e25)) ?_
  rintro _ _ ⟨W26, rfl, l26, rfl⟩
  obtain ⟨u29, e30, hm⟩ := ob hm
  refine Lw.r rfl (R.ix (α := Commit) (o22.up l26 rfl).rd e30 rfl rfl rfl) (Lw.fa rfl ?_)
  obtain ⟨q32, e33, hm⟩ := ob hm
  refine Lw.u (T.stH (α := Commit) (β := Str) (J := []) (Ow.hole (α := Commit) (β := Str) (jf := 1) (o22.up l26 rfl) e30) (OwS.atm (K := []) (rdS _)) e33 rfl rfl rfl rfl) ?_
  rintro _ _ ⟨W31, rfl, l31, o31⟩
  refine Lw.nil (Cw.seq (Cw.region (Lw.m (vI z17.1) rfl (Lw.add rfl (Lw.g (vI (w64 (z17.1 + 1))) rfl (Lw.nil (Cw.region (Lw.m v0_ rfl (Lw.m (vI y2) rfl ?_)))))))))
  obtain ⟨u35, e36, hm⟩ := ob hm
  refine Lw.r rfl (R.ix (α := Commit) o31.rd e36 rfl rfl rfl) (Lw.fa rfl ?_)
  obtain ⟨v37, c38, r39⟩ := (Commit.at2 (o31.rd.at_ e36)).cell rfl
  refine Lw.r rfl (R.ld rfl rfl c38) (Lw.m (vI (w64 (z17.1 + 1))) rfl ?_)
  obtain ⟨W40, ew40, l40, o40, gb40⟩ := Ow.lend (α := Commit) (β := List File) (j := 4) (jf := 2) o31 e36 c38 rfl
  rw [← ew40]
  obtain ⟨z42, e43, hm⟩ := ob hm
  refine Lw.t rfl (T.call rfl (p29 (K := [0])  (c0 := 4) o40 rfl e43)) ?_
  rintro _ _ ⟨W44, rfl, l44, ⟨rfl, f44_0⟩⟩
  obtain ⟨W47, ew47, l47, q47, eq47, o47⟩ := gb40 _ _ l44 f44_0
  obtain ⟨q47_, eqm47, hm⟩ := ob hm
  obtain rfl : q47_ = q47 := Option.some.inj (eqm47.symm.trans eq47)
  rw [← ew47]
  refine Lw.g (vI z42.1) rfl (Lw.nil (Cw.region (Lw.m (vI y2) rfl (Lw.add rfl (Lw.g (vI (w64 (y2 + 1))) rfl (Lw.nil (⟨?_, m7, Nat.lt_succ_self m7, ⟨z42.1, w64 (y2 + 1), q47_, W47, rfl, (l5.trans ((l15.sub rfl).trans ((l19.sub rfl).trans ((l22.sub rfl).trans ((l26.sub rfl).trans ((l31.sub rfl).trans ((l40.sub rfl).trans ((l44.sub rfl).trans (l47.sub rfl))))))))), rfl, o47, hm⟩⟩)))))))
  iterate 34 (refine .u ?_)
  exact Agree.base
 ·replace hm := bf hm hc9
  refine Cw.exit ?_
  rw [hK6] at hm
  refine Cw.seq (Cw.region (Lw.m (vI y1) rfl (Lw.g (vI y1) rfl (Lw.nil ?_))))
  cases hm
  exact Cw.ret (ret1 rfl (Res.mk a8 ⟨rfl, o4⟩))

theorem p42 {W : CW} {K : List Nat} {x0 : List Vm.Commit} {v0_ : Value} {x1 : Int} {c0 : Nat} {r : Int × (List Vm.Commit)} (h0 : Ow W c0 [] [v0_] x0) (hJ : okJ K [c0] = true) (hm : Vm.laws_markCommitS x0 x1 = some r) : CallR Tryd.prog 42 [v0_, vI x1].toArray W.w (Res W [c0] fun W' v => v = vI r.1 ∧ Ow W' c0 [] [v0_] r.2) :=
 CallR.adJ (J := [c0]) (fun c => bif Nat.beq c 0 then 0 else bif Nat.beq c 2 then c0 else 0) (c42 (V := W.view K [c0]) (h0.viewJ 0 hJ) hm) fun _ _ ⟨e, f0⟩ => ⟨e, Ow.backJ 0 f0 rfl⟩

theorem c62 {V : CW} {x0 : List Vm.Head} {v0_ : Value} {x1 : Int} {r : Int × (List Vm.Head)} (h0 : Ow V 2 [] [v0_] x0) (hm : Vm.laws_markHeadS x0 x1 = some r) : CallR Tryd.prog 62 [v0_, vI x1].toArray V.w (Res V LL fun Wf v => v = vI r.1 ∧ Ow Wf 2 [] [v0_] r.2) := by
 unfold Vm.laws_markHeadS at hm
 obtain ⟨W0, hW0⟩ : ∃ W, W = V := ⟨V, rfl⟩
 subst hW0
 refine CallR.of Tryd.func62 rfl rfl rfl rfl (Cw.seq (Cw.region (Lw.g (vI 0) rfl (Lw.nil (Cw.seq (Cw.seq (Cw.region (Lw.g (vI 0) rfl (Lw.nil (Cw.block ?_))))))))))
 obtain ⟨K6, hK6, hm⟩ := jn_e hm
 refine Cw.loop 6 26 [1, 5] (fun m l w => ∃ (y1 : Int) (y2 : Int) (y3 : List Vm.Head) (W5 : CW), W5.w = w ∧ Le [2] W0 W5 ∧ l = [vI y1, vI y2] ∧ Ow W5 2 [] [v0_] y3 ∧ Vm.laws_markHeadS_l1 K6 m y1 y2 y3 = some r) (((x0.length : Int) - 0).toNat + 1) ⟨x1, 0, x0, W0, rfl, Le.refl _ _, rfl, h0, hm⟩ ?_
 rintro m7 _ _ σ ⟨y1, y2, y3, W5, rfl, l5, rfl, o4, hm⟩
 obtain _ | m7 := m7
 ·cases hm
 unfold Vm.laws_markHeadS_l1 at hm
 have a8 := l5.s rfl
 refine Cw.seq (Cw.seq (Cw.region (Lw.m (vI y2) rfl (Lw.m v0_ rfl (Lw.ln y3 o4.rd rfl (Lw.lt rfl (Lw.nil (Cw.cond (b := decide ((y2 : Int) < ((y3.length : Int) : Int))) rfl (fun hc9 => ?_) (fun hc9 => ?_)))))))))
 ·replace hm := bt hm hc9
  refine Cw.skip (Cw.seq (Cw.block (Cw.seq (Cw.region (Lw.m v0_ rfl (Lw.m (vI y2) rfl (Lw.m (vI y1) rfl ?_)))))))
  obtain ⟨z10, e11, hm⟩ := ob hm
  refine Lw.t rfl (T.call rfl (p76 (K := [0])   e11)) ?_
  rintro _ _ ⟨W12, rfl, l12, rfl⟩
  obtain ⟨u15, e16, hm⟩ := ob hm
  refine Lw.r rfl (R.ix (α := Head) (o4.up l12 rfl).rd e16 rfl rfl rfl) (Lw.fa rfl ?_)
  obtain ⟨q18, e19, hm⟩ := ob hm
  refine Lw.u (T.stH (α := Head) (β := Str) (J := []) (Ow.hole (α := Head) (β := Str) (jf := 0) (o4.up l12 rfl) e16) (OwS.atm (K := []) (rdS _)) e19 rfl rfl rfl rfl) ?_
  rintro _ _ ⟨W17, rfl, l17, o17⟩
  refine Lw.nil (Cw.seq (Cw.region (Lw.m (vI y1) rfl (Lw.add rfl (Lw.g (vI (w64 (y1 + 1))) rfl (Lw.nil (Cw.seq (Cw.region (Lw.m v0_ rfl (Lw.m (vI y2) rfl (Lw.m (vI (w64 (y1 + 1))) rfl ?_)))))))))))
  obtain ⟨u21, e22, hm⟩ := ob hm
  refine Lw.r rfl (R.ix (α := Head) o17.rd e22 rfl rfl rfl) (Lw.fa rfl ?_)
  obtain ⟨q24, e25, hm⟩ := ob hm
  refine Lw.u (T.stH (α := Head) (β := Int) (J := []) (Ow.hole (α := Head) (β := Int) (jf := 1) o17 e22) (OwS.atm (K := []) (rdI _)) e25 rfl rfl rfl rfl) ?_
  rintro _ _ ⟨W23, rfl, l23, o23⟩
  refine Lw.nil (Cw.region (Lw.m (vI (w64 (y1 + 1))) rfl (Lw.add rfl (Lw.g (vI (w64 ((w64 (y1 + 1)) + 1))) rfl (Lw.nil (Cw.region (Lw.m (vI y2) rfl (Lw.add rfl (Lw.g (vI (w64 (y2 + 1))) rfl (Lw.nil (⟨?_, m7, Nat.lt_succ_self m7, ⟨w64 ((w64 (y1 + 1)) + 1), w64 (y2 + 1), q24, W23, rfl, (l5.trans ((l12.sub rfl).trans (l17.trans l23))), rfl, o23, hm⟩⟩)))))))))))
  iterate 26 (refine .u ?_)
  exact Agree.base
 ·replace hm := bf hm hc9
  refine Cw.exit ?_
  rw [hK6] at hm
  refine Cw.seq (Cw.region (Lw.m (vI y1) rfl (Lw.g (vI y1) rfl (Lw.nil ?_))))
  cases hm
  exact Cw.ret (ret1 rfl (Res.mk a8 ⟨rfl, o4⟩))

theorem p62 {W : CW} {K : List Nat} {x0 : List Vm.Head} {v0_ : Value} {x1 : Int} {c0 : Nat} {r : Int × (List Vm.Head)} (h0 : Ow W c0 [] [v0_] x0) (hJ : okJ K [c0] = true) (hm : Vm.laws_markHeadS x0 x1 = some r) : CallR Tryd.prog 62 [v0_, vI x1].toArray W.w (Res W [c0] fun W' v => v = vI r.1 ∧ Ow W' c0 [] [v0_] r.2) :=
 CallR.adJ (J := [c0]) (fun c => bif Nat.beq c 0 then 0 else bif Nat.beq c 2 then c0 else 0) (c62 (V := W.view K [c0]) (h0.viewJ 0 hJ) hm) fun _ _ ⟨e, f0⟩ => ⟨e, Ow.backJ 0 f0 rfl⟩

theorem c20 {V : CW} {x0 : Vm.Repo} {v0_0_ : Value} {v0_1_ : Value} {x1 : Int} {r : Int × Vm.Repo} (h0_0 : Ow V 2 [] [v0_0_] x0.Commits) (h0_1 : Ow V 3 [] [v0_1_] x0.Heads) (hm : Vm.laws_markRepo x0 x1 = some r) : CallR Tryd.prog 20 [.agg [v0_0_, v0_1_].toArray, vI x1].toArray V.w (Res V LL fun Wf v => v = vI r.1 ∧ Ow Wf 2 [] [v0_0_] r.2.Commits ∧ Ow Wf 3 [] [v0_1_] r.2.Heads) := by
 unfold Vm.laws_markRepo at hm
 obtain ⟨W0, hW0⟩ : ∃ W, W = V := ⟨V, rfl⟩
 subst hW0
 refine CallR.of Tryd.func20 rfl rfl rfl rfl (Cw.seq (Cw.region (Lw.t rfl (T.box 4 (v := .agg [v0_0_, v0_1_].toArray) (cs := [v0_0_, v0_1_]) rfl rfl) ?_)))
 rintro _ _ ⟨g1, W1, rfl, rfl, l1, b1⟩
 have a2 := l1.o
 refine Lw.g (vI 0) rfl (Lw.nil (Cw.seq (Cw.region (Lw.fa rfl (Lw.r rfl (R.ld (v := v0_0_) rfl rfl (b1.cell rfl)) (Lw.m (vI x1) rfl ?_))))))
 obtain ⟨z5, e6, hm⟩ := ob hm
 refine Lw.t rfl (T.call rfl (p42 (K := [0])  (c0 := 2) (h0_0.up l1 rfl) rfl e6)) ?_
 rintro _ _ ⟨W7, rfl, l7, ⟨rfl, f7_0⟩⟩
 have a8 := a2.t l7 rfl
 refine Lw.g (vI z5.1) rfl (Lw.nil (Cw.seq (Cw.region (Lw.fa rfl (Lw.r rfl (R.ld (v := v0_1_) rfl rfl ((b1.up l7 rfl).cell rfl)) (Lw.m (vI z5.1) rfl ?_))))))
 obtain ⟨z11, e12, hm⟩ := ob hm
 refine Lw.t rfl (T.call rfl (p62 (K := [0])  (c0 := 3) ((h0_1.up l1 rfl).up l7 rfl) rfl e12)) ?_
 rintro _ _ ⟨W13, rfl, l13, ⟨rfl, f13_0⟩⟩
 have a14 := a8.t l13 rfl
 refine Lw.g (vI z11.1) rfl (Lw.nil (Cw.seq (Cw.region (Lw.m (vI z11.1) rfl (Lw.g (vI z11.1) rfl (Lw.nil ?_))))))
 cases hm
 exact Cw.ret (ret1 rfl (Res.mk a14 ⟨rfl, (f7_0.up l13 rfl), f13_0⟩))

theorem p20 {W : CW} {K : List Nat} {x0 : Vm.Repo} {v0_0_ : Value} {v0_1_ : Value} {x1 : Int} {c0 : Nat} {c1 : Nat} {r : Int × Vm.Repo} (h0_0 : Ow W c0 [] [v0_0_] x0.Commits) (h0_1 : Ow W c1 [] [v0_1_] x0.Heads) (hJ : okJ K [c0, c1] = true) (hm : Vm.laws_markRepo x0 x1 = some r) : CallR Tryd.prog 20 [.agg [v0_0_, v0_1_].toArray, vI x1].toArray W.w (Res W [c0, c1] fun W' v => v = vI r.1 ∧ Ow W' c0 [] [v0_0_] r.2.Commits ∧ Ow W' c1 [] [v0_1_] r.2.Heads) :=
 CallR.adJ (J := [c0, c1]) (fun c => bif Nat.beq c 0 then 0 else bif Nat.beq c 2 then c0 else bif Nat.beq c 3 then c1 else 0) (c20 (V := W.view K [c0, c1]) (h0_0.viewJ 0 hJ) (h0_1.viewJ 1 hJ) hm) fun _ _ ⟨e, f0, f1⟩ => ⟨e, Ow.backJ 0 f0 rfl, Ow.backJ 1 f1 rfl⟩

theorem c118 {V : CW} {x0 : List Int} {v0_ : Value} {x1 : Int} {r : Int} (h0 : Rd V [0] [v0_] x0) (hm : Vm.laws_heldIntS x0 x1 = some r) : CallR Tryd.prog 118 [v0_, vI x1].toArray V.w (Res V LL fun Wf v => v = vI r) := by
 unfold Vm.laws_heldIntS at hm
 obtain ⟨W0, hW0⟩ : ∃ W, W = V := ⟨V, rfl⟩
 subst hW0
 refine CallR.of Tryd.func118 rfl rfl rfl rfl (Cw.seq (Cw.region (Lw.g (vI 0) rfl (Lw.nil (Cw.seq (Cw.seq (Cw.region (Lw.g (vI 0) rfl (Lw.nil (Cw.block ?_))))))))))
 obtain ⟨K5, hK5, hm⟩ := jn_e hm
 refine Cw.loop 6 19 [1, 4, 5] (fun m l w => ∃ (y1 : Int) (y2 : Int) (y3 : Int) (W4 : CW), W4.w = w ∧ Le [] W0 W4 ∧ l = [vI y1, vI y2, vI y3] ∧ Vm.laws_heldIntS_l1 x0 K5 m y1 y2 y3 = some r) (((x0.length : Int) - 0).toNat + 1) ⟨x1, 0, 0, W0, rfl, Le.refl _ _, rfl, hm⟩ ?_
 rintro m6 _ _ σ ⟨y1, y2, y3, W4, rfl, l4, rfl, hm⟩
 obtain _ | m6 := m6
 ·cases hm
 unfold Vm.laws_heldIntS_l1 at hm
 have a7 := l4.o
 refine Cw.seq (Cw.seq (Cw.region ?_))
 have s8 := h0.ul a7
 refine Lw.m (vI y3) rfl (Lw.m v0_ rfl (Lw.ln x0 s8 rfl (Lw.lt rfl (Lw.nil (Cw.cond (b := decide ((y3 : Int) < ((x0.length : Int) : Int))) rfl (fun hc9 => ?_) (fun hc9 => ?_))))))
 ·replace hm := bt hm hc9
  refine Cw.skip (Cw.seq (Cw.block (Cw.seq (Cw.seq (Cw.region (Lw.m v0_ rfl (Lw.m (vI y3) rfl ?_)))))))
  obtain ⟨u10, e11, hm⟩ := ob hm
  refine Lw.r rfl (R.ix (α := Int) s8 e11 rfl rfl rfl) (Lw.r rfl (R.ld rfl rfl (s8.at_ e11).int) (Lw.m (vI y1) rfl (Lw.ne rfl (Lw.nil (Cw.cond (b := ((u10 : Int) != (y1 : Int))) rfl (fun hc12 => ?_) (fun hc12 => ?_))))))
  ·replace hm := bt hm hc12
   refine Cw.seq (Cw.region (Lw.g (vI (-1)) rfl (Lw.nil ?_)))
   cases hm
   exact Cw.ret (ret1 rfl (Res.mk a7 rfl))
  ·replace hm := bf hm hc12
   refine Cw.skip (Cw.region (Lw.m (vI y1) rfl (Lw.add rfl (Lw.g (vI (w64 (y1 + 1))) rfl (Lw.nil (Cw.region (Lw.m (vI y3) rfl (Lw.add rfl (Lw.g (vI (w64 (y3 + 1))) rfl (Lw.nil (⟨?_, m6, Nat.lt_succ_self m6, ⟨w64 (y1 + 1), y2, w64 (y3 + 1), W4, rfl, l4, rfl, hm⟩⟩)))))))))))
   iterate 19 (refine .u ?_)
   exact Agree.base
 ·replace hm := bf hm hc9
  refine Cw.exit ?_
  rw [hK5] at hm
  refine Cw.seq (Cw.region (Lw.m (vI y1) rfl (Lw.g (vI y1) rfl (Lw.nil ?_))))
  cases hm
  exact Cw.ret (ret1 rfl (Res.mk a7 rfl))

theorem p118 {W : CW} {K : List Nat} {x0 : List Int} {v0_ : Value} {x1 : Int} {r : Int} (h0 : Rd W K [v0_] x0) (hm : Vm.laws_heldIntS x0 x1 = some r) : CallR Tryd.prog 118 [v0_, vI x1].toArray W.w (Res W [] fun W' v => v = vI r) :=
 (c118 (V := W.view K []) (h0.view _) hm).ad (fk 0) fun _ _ e => e

theorem c101 {V : CW} {x0 : List Str} {v0_ : Value} {x1 : Int} {r : Int} (h0 : Rd V [0] [v0_] x0) (hm : Vm.laws_heldStringS x0 x1 = some r) : CallR Tryd.prog 101 [v0_, vI x1].toArray V.w (Res V LL fun Wf v => v = vI r) := by
 unfold Vm.laws_heldStringS at hm
 obtain ⟨W0, hW0⟩ : ∃ W, W = V := ⟨V, rfl⟩
 subst hW0
 refine CallR.of Tryd.func101 rfl rfl rfl rfl (Cw.seq (Cw.region (Lw.g (vI 0) rfl (Lw.nil (Cw.seq (Cw.seq (Cw.region (Lw.g (vI 0) rfl (Lw.nil (Cw.block ?_))))))))))
 obtain ⟨K5, hK5, hm⟩ := jn_e hm
 refine Cw.loop 6 20 [1, 4, 5] (fun m l w => ∃ (y1 : Int) (y2 : Int) (y3 : Int) (W4 : CW), W4.w = w ∧ Le [] W0 W4 ∧ l = [vI y1, vI y2, vI y3] ∧ Vm.laws_heldStringS_l1 x0 K5 m y1 y2 y3 = some r) (((x0.length : Int) - 0).toNat + 1) ⟨x1, 0, 0, W0, rfl, Le.refl _ _, rfl, hm⟩ ?_
 rintro m6 _ _ σ ⟨y1, y2, y3, W4, rfl, l4, rfl, hm⟩
 obtain _ | m6 := m6
 ·cases hm
 unfold Vm.laws_heldStringS_l1 at hm
 have a7 := l4.o
 refine Cw.seq (Cw.seq (Cw.region (Lw.m (vI y3) rfl (Lw.m v0_ rfl (Lw.ln x0 (h0.ul a7) rfl (Lw.lt rfl (Lw.nil (Cw.cond (b := decide ((y3 : Int) < ((x0.length : Int) : Int))) rfl (fun hc9 => ?_) (fun hc9 => ?_)))))))))
 ·replace hm := bt hm hc9
  refine Cw.skip (Cw.seq (Cw.block (Cw.seq (Cw.seq (Cw.draw [] [(0, 0), (1, 0), (2, 0), (3, 1), (4, 0), (5, 2), (6, 0)] mixed (by kernel_rfl) fun W10 l10 => ?_)))))
  have a11 := a7.n l10
  refine Mw.p rfl rfl (fun _ => R.mv (v := v0_) rfl) (Mw.p rfl rfl (fun _ => R.mv (v := vI y3) rfl) ?_)
  obtain ⟨u12, e13, hm⟩ := ob hm
  refine Mw.p rfl rfl (fun _ => R.ix (α := Str) (h0.ul a11) e13 rfl rfl rfl) (Mw.q rfl rfl (fun _ c => R.ld rfl rfl (cl_cell ((h0.ul a11).at_ e13).1 rfl ((h0.ul a11).at_ e13).str c)) (Mw.p rfl rfl (fun _ => R.mv (v := vI y1) rfl) ?_))
  obtain ⟨z15, e16, hm⟩ := ob hm
  refine Mw.t rfl rfl (T.call rfl (p76 (K := [0])   e16)) ?_
  rintro _ _ ⟨W17, rfl, l17, rfl⟩
  have a18 := a11.n l17
  refine ⟨⟨_, rfl, (l17.sub (M := []) rfl)⟩, ?_⟩
  refine Mw.p rfl rfl (fun _ => R.sne rfl rfl) (Mw.nil (Cw.cond (b := (u12 != z15)) rfl (fun hc19 => ?_) (fun hc19 => ?_)))
  ·replace hm := bt hm hc19
   refine Cw.seq (Cw.region (Lw.g (vI (-1)) rfl (Lw.nil ?_)))
   cases hm
   exact Cw.ret (ret1 rfl (Res.mk a18 rfl))
  ·replace hm := bf hm hc19
   refine Cw.skip (Cw.region (Lw.m (vI y1) rfl (Lw.add rfl (Lw.g (vI (w64 (y1 + 1))) rfl (Lw.nil (Cw.region (Lw.m (vI y3) rfl (Lw.add rfl (Lw.g (vI (w64 (y3 + 1))) rfl (Lw.nil (⟨?_, m6, Nat.lt_succ_self m6, ⟨w64 (y1 + 1), y2, w64 (y3 + 1), W17, rfl, (l4.trans (l10.trans l17)), rfl, hm⟩⟩)))))))))))
   iterate 20 (refine .u ?_)
   exact Agree.base
 ·replace hm := bf hm hc9
  refine Cw.exit ?_
  rw [hK5] at hm
  refine Cw.seq (Cw.region (Lw.m (vI y1) rfl (Lw.g (vI y1) rfl (Lw.nil ?_))))
  cases hm
  exact Cw.ret (ret1 rfl (Res.mk a7 rfl))

theorem p101 {W : CW} {K : List Nat} {x0 : List Str} {v0_ : Value} {x1 : Int} {r : Int} (h0 : Rd W K [v0_] x0) (hm : Vm.laws_heldStringS x0 x1 = some r) : CallR Tryd.prog 101 [v0_, vI x1].toArray W.w (Res W [] fun W' v => v = vI r) :=
 (c101 (V := W.view K []) (h0.view _) hm).ad (fk 0) fun _ _ e => e

theorem c119 {V : CW} {x0 : List Vm.File} {v0_ : Value} {x1 : Int} {r : Int} (h0 : Rd V [0] [v0_] x0) (hm : Vm.laws_heldFileS x0 x1 = some r) : CallR Tryd.prog 119 [v0_, vI x1].toArray V.w (Res V LL fun Wf v => v = vI r) := by
 unfold Vm.laws_heldFileS at hm
 obtain ⟨W0, hW0⟩ : ∃ W, W = V := ⟨V, rfl⟩
 subst hW0
 refine CallR.of Tryd.func119 rfl rfl rfl rfl (Cw.seq (Cw.region (Lw.g (vI 0) rfl (Lw.nil (Cw.seq (Cw.seq (Cw.region (Lw.g (vI 0) rfl (Lw.nil (Cw.block ?_))))))))))
 obtain ⟨K5, hK5, hm⟩ := jn_e hm
 refine Cw.loop 6 30 [1, 4, 5] (fun m l w => ∃ (y1 : Int) (y2 : Int) (y3 : Int) (W4 : CW), W4.w = w ∧ Le [] W0 W4 ∧ l = [vI y1, vI y2, vI y3] ∧ Vm.laws_heldFileS_l1 x0 K5 m y1 y2 y3 = some r) (((x0.length : Int) - 0).toNat + 1) ⟨x1, 0, 0, W0, rfl, Le.refl _ _, rfl, hm⟩ ?_
 rintro m6 _ _ σ ⟨y1, y2, y3, W4, rfl, l4, rfl, hm⟩
 obtain _ | m6 := m6
 ·cases hm
 unfold Vm.laws_heldFileS_l1 at hm
 have a7 := l4.o
 refine Cw.seq (Cw.seq (Cw.region (Lw.m (vI y3) rfl (Lw.m v0_ rfl (Lw.ln x0 (h0.ul a7) rfl (Lw.lt rfl (Lw.nil (Cw.cond (b := decide ((y3 : Int) < ((x0.length : Int) : Int))) rfl (fun hc9 => ?_) (fun hc9 => ?_)))))))))
 ·replace hm := bt hm hc9
  refine Cw.skip (Cw.seq (Cw.block (Cw.seq (Cw.seq (Cw.draw [] [(0, 0), (1, 0), (2, 0), (3, 0), (4, 1), (5, 0), (6, 2), (7, 0)] mixed (by kernel_rfl) fun W10 l10 => ?_)))))
  have a11 := a7.n l10
  refine Mw.p rfl rfl (fun _ => R.mv (v := v0_) rfl) (Mw.p rfl rfl (fun _ => R.mv (v := vI y3) rfl) ?_)
  obtain ⟨u12, e13, hm⟩ := ob hm
  refine Mw.p rfl rfl (fun _ => R.ix (α := File) (h0.ul a11) e13 rfl rfl rfl) (Mw.p rfl rfl (fun _ => R.fa rfl) (Mw.q rfl rfl (fun _ c => R.ld rfl rfl (cl_cell (File.at0 ((h0.ul a11).at_ e13)).1 rfl (File.at0 ((h0.ul a11).at_ e13)).str c)) (Mw.p rfl rfl (fun _ => R.mv (v := vI y1) rfl) ?_)))
  obtain ⟨z15, e16, hm⟩ := ob hm
  refine Mw.t rfl rfl (T.call rfl (p76 (K := [0])   e16)) ?_
  rintro _ _ ⟨W17, rfl, l17, rfl⟩
  have a18 := a11.n l17
  refine ⟨⟨_, rfl, (l17.sub (M := []) rfl)⟩, ?_⟩
  refine Mw.p rfl rfl (fun _ => R.sne rfl rfl) (Mw.nil (Cw.cond (b := (u12.Path != z15)) rfl (fun hc19 => ?_) (fun hc19 => ?_)))
  ·replace hm := bt hm hc19
   refine Cw.seq (Cw.region (Lw.g (vI (-1)) rfl (Lw.nil ?_)))
   cases hm
   exact Cw.ret (ret1 rfl (Res.mk a18 rfl))
  ·replace hm := bf hm hc19
   refine Cw.skip (Cw.seq (Cw.region (Lw.m (vI y1) rfl (Lw.add rfl (Lw.g (vI (w64 (y1 + 1))) rfl (Lw.nil (Cw.seq (Cw.region (Lw.m v0_ rfl (Lw.m (vI y3) rfl ?_))))))))))
   obtain ⟨u20, e21, hm⟩ := ob hm
   refine Lw.r rfl (R.ix (α := File) (h0.ul a18) e21 rfl rfl rfl) (Lw.fa rfl ?_)
   obtain ⟨v23, c24, r25⟩ := (File.at1 ((h0.ul a18).at_ e21)).cell rfl
   refine Lw.r rfl (R.ld rfl rfl c24) (Lw.m (vI (w64 (y1 + 1))) rfl ?_)
   obtain ⟨z26, e27, hm⟩ := ob hm
   refine Lw.t rfl (T.call rfl (p101 (K := [0])  r25 e27)) ?_
   rintro _ _ ⟨W28, rfl, l28, rfl⟩
   have a29 := a18.n l28
   refine Lw.g (vI z26) rfl (Lw.nil (Cw.seq (Cw.region (Lw.m (vI z26) rfl (Lw.lt rfl (Lw.nil (Cw.cond (b := decide ((z26 : Int) < (0 : Int))) rfl (fun hc30 => ?_) (fun hc30 => ?_))))))))
   ·replace hm := bt hm hc30
    refine Cw.seq (Cw.region (Lw.g (vI (-1)) rfl (Lw.nil ?_)))
    cases hm
    exact Cw.ret (ret1 rfl (Res.mk a29 rfl))
   ·replace hm := bf hm hc30
    refine Cw.skip (Cw.region (Lw.m (vI y3) rfl (Lw.add rfl (Lw.g (vI (w64 (y3 + 1))) rfl (Lw.nil (⟨?_, m6, Nat.lt_succ_self m6, ⟨z26, y2, w64 (y3 + 1), W28, rfl, (l4.trans (l10.trans (l17.trans l28))), rfl, hm⟩⟩))))))
    iterate 31 (refine .u ?_)
    exact Agree.base
 ·replace hm := bf hm hc9
  refine Cw.exit ?_
  rw [hK5] at hm
  refine Cw.seq (Cw.region (Lw.m (vI y1) rfl (Lw.g (vI y1) rfl (Lw.nil ?_))))
  cases hm
  exact Cw.ret (ret1 rfl (Res.mk a7 rfl))

theorem p119 {W : CW} {K : List Nat} {x0 : List Vm.File} {v0_ : Value} {x1 : Int} {r : Int} (h0 : Rd W K [v0_] x0) (hm : Vm.laws_heldFileS x0 x1 = some r) : CallR Tryd.prog 119 [v0_, vI x1].toArray W.w (Res W [] fun W' v => v = vI r) :=
 (c119 (V := W.view K []) (h0.view _) hm).ad (fk 0) fun _ _ e => e

theorem c63 {V : CW} {x0 : List Vm.Commit} {v0_ : Value} {x1 : Int} {r : Int} (h0 : Rd V [0] [v0_] x0) (hm : Vm.laws_heldCommitS x0 x1 = some r) : CallR Tryd.prog 63 [v0_, vI x1].toArray V.w (Res V LL fun Wf v => v = vI r) := by
 unfold Vm.laws_heldCommitS at hm
 obtain ⟨W0, hW0⟩ : ∃ W, W = V := ⟨V, rfl⟩
 subst hW0
 refine CallR.of Tryd.func63 rfl rfl rfl rfl (Cw.seq (Cw.region (Lw.g (vI 0) rfl (Lw.nil (Cw.seq (Cw.seq (Cw.region (Lw.g (vI 0) rfl (Lw.nil (Cw.block ?_))))))))))
 obtain ⟨K5, hK5, hm⟩ := jn_e hm
 refine Cw.loop 6 39 [1, 4, 5] (fun m l w => ∃ (y1 : Int) (y2 : Int) (y3 : Int) (W4 : CW), W4.w = w ∧ Le [] W0 W4 ∧ l = [vI y1, vI y2, vI y3] ∧ Vm.laws_heldCommitS_l1 x0 K5 m y1 y2 y3 = some r) (((x0.length : Int) - 0).toNat + 1) ⟨x1, 0, 0, W0, rfl, Le.refl _ _, rfl, hm⟩ ?_
 rintro m6 _ _ σ ⟨y1, y2, y3, W4, rfl, l4, rfl, hm⟩
 obtain _ | m6 := m6
 ·cases hm
 unfold Vm.laws_heldCommitS_l1 at hm
 have a7 := l4.o
 refine Cw.seq (Cw.seq (Cw.region ?_))
 have s8 := h0.ul a7
 refine Lw.m (vI y3) rfl (Lw.m v0_ rfl (Lw.ln x0 s8 rfl (Lw.lt rfl (Lw.nil (Cw.cond (b := decide ((y3 : Int) < ((x0.length : Int) : Int))) rfl (fun hc9 => ?_) (fun hc9 => ?_))))))
 ·replace hm := bt hm hc9
  refine Cw.skip (Cw.seq (Cw.block (Cw.seq (Cw.region (Lw.m v0_ rfl (Lw.m (vI y3) rfl ?_))))))
  obtain ⟨u10, e11, hm⟩ := ob hm
  refine Lw.r rfl (R.ix (α := Commit) s8 e11 rfl rfl rfl) (Lw.fa rfl ?_)
  obtain ⟨v12, c13, r14⟩ := (Commit.at0 (s8.at_ e11)).cell rfl
  refine Lw.r rfl (R.ld rfl rfl c13) (Lw.m (vI y1) rfl ?_)
  obtain ⟨z15, e16, hm⟩ := ob hm
  refine Lw.t rfl (T.call rfl (p118 (K := [0])  r14 e16)) ?_
  rintro _ _ ⟨W17, rfl, l17, rfl⟩
  have a18 := a7.n l17
  refine Lw.g (vI z15) rfl (Lw.nil (Cw.seq (Cw.seq (Cw.region (Lw.m (vI z15) rfl (Lw.lt rfl (Lw.nil (Cw.cond (b := decide ((z15 : Int) < (0 : Int))) rfl (fun hc19 => ?_) (fun hc19 => ?_)))))))))
  ·replace hm := bt hm hc19
   refine Cw.seq (Cw.region (Lw.g (vI (-1)) rfl (Lw.nil ?_)))
   cases hm
   exact Cw.ret (ret1 rfl (Res.mk a18 rfl))
  ·replace hm := bf hm hc19
   refine Cw.skip (Cw.seq (Cw.seq (Cw.draw [] [(0, 0), (1, 0), (2, 0), (3, 0), (4, 1), (5, 0), (6, 2), (7, 0)] mixed (by kernel_rfl) fun W20 l20 => ?_)))
   have a21 := a18.n l20
   refine Mw.p rfl rfl (fun _ => R.mv (v := v0_) rfl) (Mw.p rfl rfl (fun _ => R.mv (v := vI y3) rfl) ?_)
   obtain ⟨u22, e23, hm⟩ := ob hm
   refine Mw.p rfl rfl (fun _ => R.ix (α := Commit) (h0.ul a21) e23 rfl rfl rfl) (Mw.p rfl rfl (fun _ => R.fa rfl) (Mw.q rfl rfl (fun _ c => R.ld rfl rfl (cl_cell (Commit.at1 ((h0.ul a21).at_ e23)).1 rfl (Commit.at1 ((h0.ul a21).at_ e23)).str c)) (Mw.p rfl rfl (fun _ => R.mv (v := vI z15) rfl) ?_)))
   obtain ⟨z25, e26, hm⟩ := ob hm
   refine Mw.t rfl rfl (T.call rfl (p76 (K := [0])   e26)) ?_
   rintro _ _ ⟨W27, rfl, l27, rfl⟩
   have a28 := a21.n l27
   refine ⟨⟨_, rfl, (l27.sub (M := []) rfl)⟩, ?_⟩
   refine Mw.p rfl rfl (fun _ => R.sne rfl rfl) (Mw.nil (Cw.cond (b := (u22.Who != z25)) rfl (fun hc29 => ?_) (fun hc29 => ?_)))
   ·replace hm := bt hm hc29
    refine Cw.seq (Cw.region (Lw.g (vI (-1)) rfl (Lw.nil ?_)))
    cases hm
    exact Cw.ret (ret1 rfl (Res.mk a28 rfl))
   ·replace hm := bf hm hc29
    refine Cw.skip (Cw.seq (Cw.region (Lw.m (vI z15) rfl (Lw.add rfl (Lw.g (vI (w64 (z15 + 1))) rfl (Lw.nil (Cw.seq (Cw.region (Lw.m v0_ rfl (Lw.m (vI y3) rfl ?_))))))))))
    obtain ⟨u30, e31, hm⟩ := ob hm
    refine Lw.r rfl (R.ix (α := Commit) (h0.ul a28) e31 rfl rfl rfl) (Lw.fa rfl ?_)
    obtain ⟨v33, c34, r35⟩ := (Commit.at2 ((h0.ul a28).at_ e31)).cell rfl
    refine Lw.r rfl (R.ld rfl rfl c34) (Lw.m (vI (w64 (z15 + 1))) rfl ?_)
    obtain ⟨z36, e37, hm⟩ := ob hm
    refine Lw.t rfl (T.call rfl (p119 (K := [0])  r35 e37)) ?_
    rintro _ _ ⟨W38, rfl, l38, rfl⟩
    have a39 := a28.n l38
    refine Lw.g (vI z36) rfl (Lw.nil (Cw.seq (Cw.region (Lw.m (vI z36) rfl (Lw.lt rfl (Lw.nil (Cw.cond (b := decide ((z36 : Int) < (0 : Int))) rfl (fun hc40 => ?_) (fun hc40 => ?_))))))))
    ·replace hm := bt hm hc40
     refine Cw.seq (Cw.region (Lw.g (vI (-1)) rfl (Lw.nil ?_)))
     cases hm
     exact Cw.ret (ret1 rfl (Res.mk a39 rfl))
    ·replace hm := bf hm hc40
     refine Cw.skip (Cw.region (Lw.m (vI y3) rfl (Lw.add rfl (Lw.g (vI (w64 (y3 + 1))) rfl (Lw.nil (⟨?_, m6, Nat.lt_succ_self m6, ⟨z36, y2, w64 (y3 + 1), W38, rfl, (l4.trans (l17.trans (l20.trans (l27.trans l38)))), rfl, hm⟩⟩))))))
     iterate 41 (refine .u ?_)
     exact Agree.base
 ·replace hm := bf hm hc9
  refine Cw.exit ?_
  rw [hK5] at hm
  refine Cw.seq (Cw.region (Lw.m (vI y1) rfl (Lw.g (vI y1) rfl (Lw.nil ?_))))
  cases hm
  exact Cw.ret (ret1 rfl (Res.mk a7 rfl))

theorem p63 {W : CW} {K : List Nat} {x0 : List Vm.Commit} {v0_ : Value} {x1 : Int} {r : Int} (h0 : Rd W K [v0_] x0) (hm : Vm.laws_heldCommitS x0 x1 = some r) : CallR Tryd.prog 63 [v0_, vI x1].toArray W.w (Res W [] fun W' v => v = vI r) :=
 (c63 (V := W.view K []) (h0.view _) hm).ad (fk 0) fun _ _ e => e

theorem c64 {V : CW} {x0 : List Vm.Head} {v0_ : Value} {x1 : Int} {r : Int} (h0 : Rd V [0] [v0_] x0) (hm : Vm.laws_heldHeadS x0 x1 = some r) : CallR Tryd.prog 64 [v0_, vI x1].toArray V.w (Res V LL fun Wf v => v = vI r) := by
 unfold Vm.laws_heldHeadS at hm
 obtain ⟨W0, hW0⟩ : ∃ W, W = V := ⟨V, rfl⟩
 subst hW0
 refine CallR.of Tryd.func64 rfl rfl rfl rfl (Cw.seq (Cw.region (Lw.g (vI 0) rfl (Lw.nil (Cw.seq (Cw.seq (Cw.region (Lw.g (vI 0) rfl (Lw.nil (Cw.block ?_))))))))))
 obtain ⟨K5, hK5, hm⟩ := jn_e hm
 refine Cw.loop 6 30 [1, 4, 5] (fun m l w => ∃ (y1 : Int) (y2 : Int) (y3 : Int) (W4 : CW), W4.w = w ∧ Le [] W0 W4 ∧ l = [vI y1, vI y2, vI y3] ∧ Vm.laws_heldHeadS_l1 x0 K5 m y1 y2 y3 = some r) (((x0.length : Int) - 0).toNat + 1) ⟨x1, 0, 0, W0, rfl, Le.refl _ _, rfl, hm⟩ ?_
 rintro m6 _ _ σ ⟨y1, y2, y3, W4, rfl, l4, rfl, hm⟩
 obtain _ | m6 := m6
 ·cases hm
 unfold Vm.laws_heldHeadS_l1 at hm
 have a7 := l4.o
 refine Cw.seq (Cw.seq (Cw.region (Lw.m (vI y3) rfl (Lw.m v0_ rfl (Lw.ln x0 (h0.ul a7) rfl (Lw.lt rfl (Lw.nil (Cw.cond (b := decide ((y3 : Int) < ((x0.length : Int) : Int))) rfl (fun hc9 => ?_) (fun hc9 => ?_)))))))))
 ·replace hm := bt hm hc9
  refine Cw.skip (Cw.seq (Cw.block (Cw.seq (Cw.seq (Cw.draw [] [(0, 0), (1, 0), (2, 0), (3, 0), (4, 1), (5, 0), (6, 2), (7, 0)] mixed (by kernel_rfl) fun W10 l10 => ?_)))))
  have a11 := a7.n l10
  refine Mw.p rfl rfl (fun _ => R.mv (v := v0_) rfl) (Mw.p rfl rfl (fun _ => R.mv (v := vI y3) rfl) ?_)
  obtain ⟨u12, e13, hm⟩ := ob hm
  refine Mw.p rfl rfl (fun _ => R.ix (α := Head) (h0.ul a11) e13 rfl rfl rfl) (Mw.p rfl rfl (fun _ => R.fa rfl) (Mw.q rfl rfl (fun _ c => R.ld rfl rfl (cl_cell (Head.at0 ((h0.ul a11).at_ e13)).1 rfl (Head.at0 ((h0.ul a11).at_ e13)).str c)) (Mw.p rfl rfl (fun _ => R.mv (v := vI y1) rfl) ?_)))
  obtain ⟨z15, e16, hm⟩ := ob hm
  refine Mw.t rfl rfl (T.call rfl (p76 (K := [0])   e16)) ?_
  rintro _ _ ⟨W17, rfl, l17, rfl⟩
  have a18 := a11.n l17
  refine ⟨⟨_, rfl, (l17.sub (M := []) rfl)⟩, ?_⟩
  refine Mw.p rfl rfl (fun _ => R.sne rfl rfl) (Mw.nil (Cw.cond (b := (u12.Name != z15)) rfl (fun hc19 => ?_) (fun hc19 => ?_)))
  ·replace hm := bt hm hc19
   refine Cw.seq (Cw.region (Lw.g (vI (-1)) rfl (Lw.nil ?_)))
   cases hm
   exact Cw.ret (ret1 rfl (Res.mk a18 rfl))
  ·replace hm := bf hm hc19
   refine Cw.skip (Cw.seq (Cw.region (Lw.m (vI y1) rfl (Lw.add rfl (Lw.g (vI (w64 (y1 + 1))) rfl (Lw.nil (Cw.seq (Cw.seq (Cw.region (Lw.m v0_ rfl (Lw.m (vI y3) rfl ?_)))))))))))
   obtain ⟨u20, e21, hm⟩ := ob hm
   refine Lw.r rfl (R.ix (α := Head) (h0.ul a18) e21 rfl rfl rfl) (Lw.fa rfl (Lw.r rfl (R.ld rfl rfl (Head.at1 ((h0.ul a18).at_ e21)).int) (Lw.m (vI (w64 (y1 + 1))) rfl (Lw.ne rfl (Lw.nil (Cw.cond (b := ((u20.At : Int) != (w64 (y1 + 1) : Int))) rfl (fun hc23 => ?_) (fun hc23 => ?_)))))))
   ·replace hm := bt hm hc23
    refine Cw.seq (Cw.region (Lw.g (vI (-1)) rfl (Lw.nil ?_)))
    cases hm
    exact Cw.ret (ret1 rfl (Res.mk a18 rfl))
   ·replace hm := bf hm hc23
    refine Cw.skip (Cw.region (Lw.m (vI (w64 (y1 + 1))) rfl (Lw.add rfl (Lw.g (vI (w64 ((w64 (y1 + 1)) + 1))) rfl (Lw.nil (Cw.region (Lw.m (vI y3) rfl (Lw.add rfl (Lw.g (vI (w64 (y3 + 1))) rfl (Lw.nil (⟨?_, m6, Nat.lt_succ_self m6, ⟨w64 ((w64 (y1 + 1)) + 1), y2, w64 (y3 + 1), W17, rfl, (l4.trans (l10.trans l17)), rfl, hm⟩⟩)))))))))))
    iterate 31 (refine .u ?_)
    exact Agree.base
 ·replace hm := bf hm hc9
  refine Cw.exit ?_
  rw [hK5] at hm
  refine Cw.seq (Cw.region (Lw.m (vI y1) rfl (Lw.g (vI y1) rfl (Lw.nil ?_))))
  cases hm
  exact Cw.ret (ret1 rfl (Res.mk a7 rfl))

theorem p64 {W : CW} {K : List Nat} {x0 : List Vm.Head} {v0_ : Value} {x1 : Int} {r : Int} (h0 : Rd W K [v0_] x0) (hm : Vm.laws_heldHeadS x0 x1 = some r) : CallR Tryd.prog 64 [v0_, vI x1].toArray W.w (Res W [] fun W' v => v = vI r) :=
 (c64 (V := W.view K []) (h0.view _) hm).ad (fk 0) fun _ _ e => e

theorem c21 {V : CW} {x0 : Vm.Repo} {v0_0_ : Value} {v0_1_ : Value} {x1 : Int} {r : Int} (h0 : Rd V [0] [v0_0_, v0_1_] x0) (hm : Vm.laws_heldRepo x0 x1 = some r) : CallR Tryd.prog 21 [.agg [v0_0_, v0_1_].toArray, vI x1].toArray V.w (Res V LL fun Wf v => v = vI r) := by
 unfold Vm.laws_heldRepo at hm
 obtain ⟨w0_0, w0_1, he0, h0_0, h0_1⟩ := Repo.split h0
 simp only [List.cons.injEq, and_true, true_and] at he0
 obtain ⟨rfl, rfl⟩ := he0
 obtain ⟨W0, hW0⟩ : ∃ W, W = V := ⟨V, rfl⟩
 subst hW0
 refine CallR.of Tryd.func21 rfl rfl rfl rfl (Cw.seq (Cw.region (Lw.t rfl (T.box 2 (v := .agg [v0_0_, v0_1_].toArray) (cs := [v0_0_, v0_1_]) rfl rfl) ?_)))
 rintro _ _ ⟨g1, W1, rfl, rfl, l1, b1⟩
 have a2 := l1.o
 refine Lw.g (vI 0) rfl (Lw.nil (Cw.seq (Cw.region (Lw.fa rfl (Lw.r rfl (R.ld (v := v0_0_) rfl rfl (b1.cell rfl)) (Lw.m (vI x1) rfl ?_))))))
 obtain ⟨z4, e5, hm⟩ := ob hm
 refine Lw.t rfl (T.call rfl (p63 (K := [0])  (h0_0.ul a2) e5)) ?_
 rintro _ _ ⟨W6, rfl, l6, rfl⟩
 have a7 := a2.n l6
 refine Lw.g (vI z4) rfl (Lw.nil (Cw.seq (Cw.seq (Cw.region (Lw.m (vI z4) rfl (Lw.lt rfl (Lw.nil (Cw.cond (b := decide ((z4 : Int) < (0 : Int))) rfl (fun hc9 => ?_) (fun hc9 => ?_)))))))))
 ·replace hm := bt hm hc9
  refine Cw.seq (Cw.region (Lw.g (vI (-1)) rfl (Lw.nil ?_)))
  cases hm
  exact Cw.ret (ret1 rfl (Res.mk a7 rfl))
 ·replace hm := bf hm hc9
  refine Cw.skip (Cw.seq (Cw.region (Lw.fa rfl (Lw.r rfl (R.ld (v := v0_1_) rfl rfl ((b1.up l6 rfl).cell rfl)) (Lw.m (vI z4) rfl ?_)))))
  obtain ⟨z11, e12, hm⟩ := ob hm
  refine Lw.t rfl (T.call rfl (p64 (K := [0])  (h0_1.ul a7) e12)) ?_
  rintro _ _ ⟨W13, rfl, l13, rfl⟩
  have a14 := a7.n l13
  refine Lw.g (vI z11) rfl (Lw.nil (Cw.seq (Cw.seq (Cw.region (Lw.m (vI z11) rfl (Lw.lt rfl (Lw.nil (Cw.cond (b := decide ((z11 : Int) < (0 : Int))) rfl (fun hc16 => ?_) (fun hc16 => ?_)))))))))
  ·replace hm := bt hm hc16
   refine Cw.seq (Cw.region (Lw.g (vI (-1)) rfl (Lw.nil ?_)))
   cases hm
   exact Cw.ret (ret1 rfl (Res.mk a14 rfl))
  ·replace hm := bf hm hc16
   refine Cw.skip (Cw.seq (Cw.region (Lw.m (vI z11) rfl (Lw.g (vI z11) rfl (Lw.nil ?_)))))
   cases hm
   exact Cw.ret (ret1 rfl (Res.mk a14 rfl))

theorem p21 {W : CW} {K : List Nat} {x0 : Vm.Repo} {v0_0_ : Value} {v0_1_ : Value} {x1 : Int} {r : Int} (h0 : Rd W K [v0_0_, v0_1_] x0) (hm : Vm.laws_heldRepo x0 x1 = some r) : CallR Tryd.prog 21 [.agg [v0_0_, v0_1_].toArray, vI x1].toArray W.w (Res W [] fun W' v => v = vI r) :=
 (c21 (V := W.view K []) (h0.view _) hm).ad (fk 0) fun _ _ e => e

end Go.Sx
