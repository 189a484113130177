/- Walks: each function answers as its model, printed by a program of ours. Conditions: the arguments read as they are given. -/
import Derived.Test.YtjdljoplpcakpaaXTs
import Derived.Test.YtjdljoplpcakpaaXMd
import Derived.Test.YtjdljoplpcakpaaXW0
import Derived.Test.YtjdljoplpcakpaaXW1
import Derived.Test.YtjdljoplpcakpaaXW2
import Derived.Test.YtjdljoplpcakpaaXW3
namespace Go.Sx
open Go Go.Proofs Go.Vm Rp
set_option linter.unusedVariables false
set_option linter.unusedSimpArgs false

theorem c76 {V : CW} {x0 : Int} {r : Str}  (hm : Vm.laws_markText x0 = some r) : CallR Try.prog 76 [vI x0].toArray V.w (Res V LL fun Wf v => v = vS r) := by
 unfold Vm.laws_markText at hm
 obtain ⟨W0, hW0⟩ : ∃ W, W = V := ⟨V, rfl⟩
 subst hW0
 refine CallR.of Try.func76 rfl rfl rfl rfl (Cw.seq (Cw.region (Lw.g (vS ([] : Str)) rfl (Lw.nil (Cw.seq (Cw.seq (Cw.region (Lw.m (vI x0) rfl (Lw.le rfl (Lw.nil (Cw.cond (b := decide ((x0 : Int) ≤ (0 : Int))) rfl (fun hc1 => ?_) (fun hc1 => ?_))))))))))))
 ·replace hm := bt hm hc1
  refine Cw.seq (Cw.region (Lw.g (vS ([109, 48] : Str)) rfl (Lw.nil ?_)))
  cases hm
  exact Cw.ret (ret1 rfl (Res.mk (Le.refl _ _) rfl))
 ·replace hm := bf hm hc1
  refine Cw.skip (Cw.seq (Cw.region (Lw.g (vS ([] : Str)) rfl (Lw.nil (Cw.seq (Cw.block ?_))))))
  obtain ⟨K5, hK5, hm⟩ := jn_e hm
  refine Cw.loop 6 17 [0, 3] (fun m l w => ∃ (y2 : Int) (y3 : Str) (W4 : CW), W4.w = w ∧ Le [] W0 W4 ∧ l = [vI y2, vS y3] ∧ Vm.laws_markText_l1 K5 m y2 y3 = some r) ((x0 - 0).toNat + 1) ⟨x0, ([] : Str), W0, rfl, Le.refl _ _, rfl, hm⟩ ?_
  rintro m6 _ _ σ ⟨y2, y3, W4, rfl, l4, rfl, hm⟩
  obtain _ | m6 := m6
  ·cases hm
  unfold Vm.laws_markText_l1 at hm
  have a7 := l4.o
  refine Cw.seq (Cw.seq (Cw.region (Lw.m (vI y2) rfl (Lw.gt rfl (Lw.nil (Cw.cond (b := decide ((0 : Int) < (y2 : Int))) rfl (fun hc8 => ?_) (fun hc8 => ?_)))))))
  ·replace hm := bt hm hc8
   refine Cw.skip (Cw.block (Cw.seq (Cw.region (Lw.m (vI y2) rfl (Lw.r rfl (R.rem rfl rfl (by decide)) (Lw.add rfl (Lw.r rfl (R.cv8 rfl rfl) (Lw.t rfl (T.bsS (α := Byte) (xs := [(by8 (w64 (48 + (Int.tmod y2 10))))]) 2 [] (W := W4) [.int .u8 (UInt8.toNat (by8 (w64 (48 + (Int.tmod y2 10)))) : Int)] (Each.cons ((rdY _)) Each.nil) rfl) ?_))))))))
   rintro v9 _ ⟨W9, rfl, l9, o9⟩
   refine Lw.r rfl (R.cvB (xs := ([(by8 (w64 (48 + (Int.tmod y2 10))))] : List Byte)) o9.rd rfl (fun h => h.1)) (Lw.m (vS y3) rfl ?_)
   obtain ⟨q11, e12, hm⟩ := ob hm
   refine Lw.r rfl (R.sad e12 rfl rfl) (Lw.g (vS q11) rfl (Lw.nil (Cw.region (Lw.m (vI y2) rfl (Lw.r rfl (R.quo rfl rfl (by decide)) (Lw.g (vI (w64 (Int.tdiv y2 10))) rfl (Lw.nil (⟨?_, m6, Nat.lt_succ_self m6, ⟨w64 (Int.tdiv y2 10), q11, W9, rfl, (l4.trans l9), rfl, hm⟩⟩))))))))
   iterate 14 (refine Agree.up rfl ?_)
   iterate 2 (refine Agree.up rfl ?_)
   exact Agree.base
  ·replace hm := bf hm hc8
   refine Cw.exit ?_
   rw [hK5] at hm
   refine Cw.seq (Cw.region (Lw.m (vS y3) rfl ?_))
   obtain ⟨q13, e14, hm⟩ := ob hm
   refine Lw.r rfl (R.sad e14 rfl rfl) (Lw.g (vS q13) rfl (Lw.nil ?_))
   cases hm
   exact Cw.ret (ret1 rfl (Res.mk a7 rfl))

theorem p76 {W : CW} {K : List Nat} {x0 : Int} {r : Str}  (hm : Vm.laws_markText x0 = some r) : CallR Try.prog 76 [vI x0].toArray W.w (Res W [] fun W' v => v = vS r) :=
 (c76 (V := W.view K [])  hm).ad (fk 0) fun _ _ e => e

theorem c41 {V : CW} {x0 : List Str} {v0_ : Value} {x1 : Int} {r : Int × (List Str)} (h0 : Ow V 2 [] [v0_] x0) (hm : Vm.laws_markStringS x0 x1 = some r) : CallR Try.prog 41 [v0_, vI x1].toArray V.w (Res V LL fun Wf v => v = vI r.1 ∧ Ow Wf 2 [] [v0_] r.2) := by
 unfold Vm.laws_markStringS at hm
 obtain ⟨W0, hW0⟩ : ∃ W, W = V := ⟨V, rfl⟩
 subst hW0
 refine CallR.of Try.func41 rfl rfl rfl rfl (Cw.seq (Cw.region (Lw.g (vI 0) rfl (Lw.nil (Cw.seq (Cw.seq (Cw.region (Lw.g (vI 0) rfl (Lw.nil (Cw.block ?_))))))))))
 obtain ⟨K6, hK6, hm⟩ := jn_e hm
 refine Cw.loop 6 18 [1, 5] (fun m l w => ∃ (y1 : Int) (y2 : Int) (y3 : List Str) (W5 : CW), W5.w = w ∧ Le [2] W0 W5 ∧ l = [vI y1, vI y2] ∧ Ow W5 2 [] [v0_] y3 ∧ Vm.laws_markStringS_l1 K6 m y1 y2 y3 = some r) (((x0.length : Int) - 0).toNat + 1) ⟨x1, 0, x0, W0, rfl, Le.refl _ _, rfl, h0, hm⟩ ?_
 rintro m7 _ _ σ ⟨y1, y2, y3, W5, rfl, l5, rfl, o4, hm⟩
 obtain _ | m7 := m7
 ·cases hm
 unfold Vm.laws_markStringS_l1 at hm
 have a8 := l5.s rfl
 refine Cw.seq (Cw.seq (Cw.region (Lw.m (vI y2) rfl (Lw.m v0_ rfl (Lw.ln y3 o4.rd rfl (Lw.lt rfl (Lw.nil (Cw.cond (b := decide ((y2 : Int) < ((y3.length : Int) : Int))) rfl (fun hc9 => ?_) (fun hc9 => ?_)))))))))
 ·replace hm := bt hm hc9
  refine Cw.skip (Cw.seq (Cw.block (Cw.seq (Cw.region (Lw.m v0_ rfl (Lw.m (vI y2) rfl (Lw.m (vI y1) rfl ?_)))))))
  obtain ⟨z10, e11, hm⟩ := ob hm
  refine Lw.t rfl (T.call rfl (p76 (K := [0])   e11)) ?_
  rintro _ _ ⟨W12, rfl, l12, rfl⟩
  obtain ⟨u15, e16, hm⟩ := ob hm
  refine Lw.r rfl (R.ix (α := Str) (o4.up l12 rfl).rd e16 rfl rfl rfl) ?_
  obtain ⟨q18, e19, hm⟩ := ob hm
  refine Lw.u (T.stS (K' := []) (o4.up l12 rfl) (rdS _) e19 rfl rfl rfl) ?_
  rintro _ _ ⟨W17, rfl, l17, o17⟩
  refine Lw.nil (Cw.region (Lw.m (vI y1) rfl (Lw.add rfl (Lw.g (vI (w64 (y1 + 1))) rfl (Lw.nil (Cw.region (Lw.m (vI y2) rfl (Lw.add rfl (Lw.g (vI (w64 (y2 + 1))) rfl (Lw.nil (⟨?_, m7, Nat.lt_succ_self m7, ⟨w64 (y1 + 1), w64 (y2 + 1), q18, W17, rfl, (l5.trans ((l12.sub rfl).trans l17)), rfl, o17, hm⟩⟩)))))))))))
  iterate 15 (refine Agree.up rfl ?_)
  iterate 2 (refine Agree.up rfl ?_)
  exact Agree.base
 ·replace hm := bf hm hc9
  refine Cw.exit ?_
  rw [hK6] at hm
  refine Cw.seq (Cw.region (Lw.m (vI y1) rfl (Lw.g (vI y1) rfl (Lw.nil ?_))))
  cases hm
  exact Cw.ret (ret1 rfl (Res.mk a8 ⟨rfl, o4⟩))

theorem p41 {W : CW} {K : List Nat} {x0 : List Str} {v0_ : Value} {x1 : Int} {c0 : Nat} {r : Int × (List Str)} (h0 : Ow W c0 [] [v0_] x0) (hJ : okJ K [c0] = true) (hm : Vm.laws_markStringS x0 x1 = some r) : CallR Try.prog 41 [v0_, vI x1].toArray W.w (Res W [c0] fun W' v => v = vI r.1 ∧ Ow W' c0 [] [v0_] r.2) :=
 CallR.adJ (J := [c0]) (fun c => bif Nat.beq c 0 then 0 else bif Nat.beq c 2 then c0 else 0) (c41 (V := W.view K [c0]) (h0.viewJ 0 hJ) hm) fun _ _ ⟨e, f0⟩ => ⟨e, Ow.backJ 0 f0 rfl⟩

theorem c24 {V : CW} {x0 : List Vm.Memo} {v0_ : Value} {x1 : Int} {r : Int × (List Vm.Memo)} (h0 : Ow V 2 [] [v0_] x0) (hm : Vm.laws_markMemoS x0 x1 = some r) : CallR Try.prog 24 [v0_, vI x1].toArray V.w (Res V LL fun Wf v => v = vI r.1 ∧ Ow Wf 2 [] [v0_] r.2) := by
 unfold Vm.laws_markMemoS at hm
 obtain ⟨W0, hW0⟩ : ∃ W, W = V := ⟨V, rfl⟩
 subst hW0
 refine CallR.of Try.func24 rfl rfl rfl rfl (Cw.seq (Cw.region (Lw.g (vI 0) rfl (Lw.nil (Cw.seq (Cw.seq (Cw.region (Lw.g (vI 0) rfl (Lw.nil (Cw.block ?_))))))))))
 obtain ⟨K6, hK6, hm⟩ := jn_e hm
 refine Cw.loop 6 39 [1, 5] (fun m l w => ∃ (y1 : Int) (y2 : Int) (y3 : List Vm.Memo) (W5 : CW), W5.w = w ∧ Le [2, 3, 4, 5, 6] W0 W5 ∧ l = [vI y1, vI y2] ∧ Ow W5 2 [] [v0_] y3 ∧ Vm.laws_markMemoS_l1 K6 m y1 y2 y3 = some r) (((x0.length : Int) - 0).toNat + 1) ⟨x1, 0, x0, W0, rfl, Le.refl _ _, rfl, h0, hm⟩ ?_
 rintro m7 _ _ σ ⟨y1, y2, y3, W5, rfl, l5, rfl, o4, hm⟩
 obtain _ | m7 := m7
 ·cases hm
 unfold Vm.laws_markMemoS_l1 at hm
 have a8 := l5.s rfl
 refine Cw.seq (Cw.seq (Cw.region (Lw.m (vI y2) rfl (Lw.m v0_ rfl (Lw.ln y3 o4.rd rfl (Lw.lt rfl (Lw.nil (Cw.cond (b := decide ((y2 : Int) < ((y3.length : Int) : Int))) rfl (fun hc9 => ?_) (fun hc9 => ?_)))))))))
 ·replace hm := bt hm hc9
  refine Cw.skip (Cw.seq (Cw.block (Cw.seq (Cw.region (Lw.m v0_ rfl (Lw.m (vI y2) rfl ?_))))))
  obtain ⟨u10, e11, hm⟩ := ob hm
  refine Lw.r rfl (R.ix (α := Memo) o4.rd e11 rfl rfl rfl) (Lw.fa rfl ?_)
  obtain ⟨v12, c13, r14⟩ := (Memo.at0 (o4.rd.at_ e11)).cell rfl
  refine Lw.r rfl (R.ld rfl rfl c13) (Lw.m (vI y1) rfl ?_)
  obtain ⟨W15, ew15, l15, o15, gb15⟩ := Ow.lend (α := Memo) (β := List Str) (j := 3) (jf := 0) o4 e11 c13 rfl
  rw [← ew15]
  obtain ⟨z17, e18, hm⟩ := ob hm
  refine Lw.t rfl (T.call rfl (p41 (K := [0])  (c0 := 3) o15 rfl e18)) ?_
  rintro _ _ ⟨W19, rfl, l19, ⟨rfl, f19_0⟩⟩
  obtain ⟨W22, ew22, l22, q22, eq22, o22⟩ := gb15 _ _ l19 f19_0
  obtain ⟨q22_, eqm22, hm⟩ := ob hm
  obtain rfl : q22_ = q22 := Option.some.inj (eqm22.symm.trans eq22)
  rw [← ew22]
  refine Lw.g (vI z17.1) rfl (Lw.nil (Cw.seq (Cw.region (Lw.m v0_ rfl (Lw.m (vI y2) rfl ?_)))))
  obtain ⟨u24, e25, hm⟩ := ob hm
  refine Lw.r rfl (R.ix (α := Memo) o22.rd e25 rfl rfl rfl) (Lw.fa rfl ?_)
  obtain ⟨v26, c27, r28⟩ := (Memo.at1 (o22.rd.at_ e25)).cell rfl
  refine Lw.r rfl (R.ld rfl rfl c27) (Lw.m (vI z17.1) rfl ?_)
  obtain ⟨W29, ew29, l29, o29, gb29⟩ := Ow.lend (α := Memo) (β := List Str) (j := 4) (jf := 1) o22 e25 c27 rfl
  rw [← ew29]
  obtain ⟨z31, e32, hm⟩ := ob hm
  refine Lw.t rfl (T.call rfl (p41 (K := [0])  (c0 := 4) o29 rfl e32)) ?_
  rintro _ _ ⟨W33, rfl, l33, ⟨rfl, f33_0⟩⟩
  obtain ⟨W36, ew36, l36, q36, eq36, o36⟩ := gb29 _ _ l33 f33_0
  obtain ⟨q36_, eqm36, hm⟩ := ob hm
  obtain rfl : q36_ = q36 := Option.some.inj (eqm36.symm.trans eq36)
  rw [← ew36]
  refine Lw.g (vI z31.1) rfl (Lw.nil (Cw.seq (Cw.region (Lw.m v0_ rfl (Lw.m (vI y2) rfl ?_)))))
  obtain ⟨u38, e39, hm⟩ := ob hm
  refine Lw.r rfl (R.ix (α := Memo) o36.rd e39 rfl rfl rfl) (Lw.fa rfl ?_)
  obtain ⟨v40, c41, r42⟩ := (Memo.at2 (o36.rd.at_ e39)).cell rfl
  refine Lw.r rfl (R.ld rfl rfl c41) (Lw.m (vI z31.1) rfl ?_)
  obtain ⟨W43, ew43, l43, o43, gb43⟩ := Ow.lend (α := Memo) (β := List Str) (j := 5) (jf := 2) o36 e39 c41 rfl
  rw [← ew43]
  obtain ⟨z45, e46, hm⟩ := ob hm
  refine Lw.t rfl (T.call rfl (p41 (K := [0])  (c0 := 5) o43 rfl e46)) ?_
  rintro _ _ ⟨W47, rfl, l47, ⟨rfl, f47_0⟩⟩
  obtain ⟨W50, ew50, l50, q50, eq50, o50⟩ := gb43 _ _ l47 f47_0
  obtain ⟨q50_, eqm50, hm⟩ := ob hm
  obtain rfl : q50_ = q50 := Option.some.inj (eqm50.symm.trans eq50)
  rw [← ew50]
  refine Lw.g (vI z45.1) rfl (Lw.nil (Cw.region (Lw.m v0_ rfl (Lw.m (vI y2) rfl ?_))))
  obtain ⟨u52, e53, hm⟩ := ob hm
  refine Lw.r rfl (R.ix (α := Memo) o50.rd e53 rfl rfl rfl) (Lw.fa rfl ?_)
  obtain ⟨v54, c55, r56⟩ := (Memo.at3 (o50.rd.at_ e53)).cell rfl
  refine Lw.r rfl (R.ld rfl rfl c55) (Lw.m (vI z45.1) rfl ?_)
  obtain ⟨W57, ew57, l57, o57, gb57⟩ := Ow.lend (α := Memo) (β := List Str) (j := 6) (jf := 3) o50 e53 c55 rfl
  rw [← ew57]
  obtain ⟨z59, e60, hm⟩ := ob hm
  refine Lw.t rfl (T.call rfl (p41 (K := [0])  (c0 := 6) o57 rfl e60)) ?_
  rintro _ _ ⟨W61, rfl, l61, ⟨rfl, f61_0⟩⟩
  obtain ⟨W64, ew64, l64, q64, eq64, o64⟩ := gb57 _ _ l61 f61_0
  obtain ⟨q64_, eqm64, hm⟩ := ob hm
  obtain rfl : q64_ = q64 := Option.some.inj (eqm64.symm.trans eq64)
  rw [← ew64]
  refine Lw.g (vI z59.1) rfl (Lw.nil (Cw.region (Lw.m (vI y2) rfl (Lw.add rfl (Lw.g (vI (w64 (y2 + 1))) rfl (Lw.nil (⟨?_, m7, Nat.lt_succ_self m7, ⟨z59.1, w64 (y2 + 1), q64_, W64, rfl, (l5.trans ((l15.sub rfl).trans ((l19.sub rfl).trans ((l22.sub rfl).trans ((l29.sub rfl).trans ((l33.sub rfl).trans ((l36.sub rfl).trans ((l43.sub rfl).trans ((l47.sub rfl).trans ((l50.sub rfl).trans ((l57.sub rfl).trans ((l61.sub rfl).trans (l64.sub rfl))))))))))))), rfl, o64, hm⟩⟩)))))))
  iterate 39 (refine Agree.up rfl ?_)
  iterate 2 (refine Agree.up rfl ?_)
  exact Agree.base
 ·replace hm := bf hm hc9
  refine Cw.exit ?_
  rw [hK6] at hm
  refine Cw.seq (Cw.region (Lw.m (vI y1) rfl (Lw.g (vI y1) rfl (Lw.nil ?_))))
  cases hm
  exact Cw.ret (ret1 rfl (Res.mk a8 ⟨rfl, o4⟩))

theorem p24 {W : CW} {K : List Nat} {x0 : List Vm.Memo} {v0_ : Value} {x1 : Int} {c0 : Nat} {r : Int × (List Vm.Memo)} (h0 : Ow W c0 [] [v0_] x0) (hJ : okJ K [c0] = true) (hm : Vm.laws_markMemoS x0 x1 = some r) : CallR Try.prog 24 [v0_, vI x1].toArray W.w (Res W [c0] fun W' v => v = vI r.1 ∧ Ow W' c0 [] [v0_] r.2) :=
 CallR.adJ (J := [c0]) (fun c => bif Nat.beq c 0 then 0 else bif Nat.beq c 2 then c0 else 0) (c24 (V := W.view K [c0]) (h0.viewJ 0 hJ) hm) fun _ _ ⟨e, f0⟩ => ⟨e, Ow.backJ 0 f0 rfl⟩

theorem c25 {V : CW} {x0 : Vm.Memo} {v0_0_ : Value} {v0_1_ : Value} {v0_2_ : Value} {v0_3_ : Value} {x1 : Int} {r : Int × Vm.Memo} (h0_0 : Ow V 2 [] [v0_0_] x0.Old) (h0_1 : Ow V 3 [] [v0_1_] x0.One) (h0_2 : Ow V 4 [] [v0_2_] x0.Two) (h0_3 : Ow V 5 [] [v0_3_] x0.Done) (hm : Vm.laws_markMemo x0 x1 = some r) : CallR Try.prog 25 [.agg [v0_0_, v0_1_, v0_2_, v0_3_].toArray, vI x1].toArray V.w (Res V LL fun Wf v => v = vI r.1 ∧ Ow Wf 2 [] [v0_0_] r.2.Old ∧ Ow Wf 3 [] [v0_1_] r.2.One ∧ Ow Wf 4 [] [v0_2_] r.2.Two ∧ Ow Wf 5 [] [v0_3_] r.2.Done) := by
 unfold Vm.laws_markMemo at hm
 obtain ⟨W0, hW0⟩ : ∃ W, W = V := ⟨V, rfl⟩
 subst hW0
 refine CallR.of Try.func25 rfl rfl rfl rfl (Cw.seq (Cw.region (Lw.t rfl (T.box 6 (v := .agg [v0_0_, v0_1_, v0_2_, v0_3_].toArray) (cs := [v0_0_, v0_1_, v0_2_, v0_3_]) rfl rfl) ?_)))
 rintro _ _ ⟨g1, W1, rfl, rfl, l1, b1⟩
 have a2 := l1.o
 refine Lw.g (vI 0) rfl (Lw.nil (Cw.seq (Cw.region (Lw.fa rfl (Lw.r rfl (R.ld (v := v0_0_) rfl rfl (b1.cell rfl)) (Lw.m (vI x1) rfl ?_))))))
 obtain ⟨z7, e8, hm⟩ := ob hm
 refine Lw.t rfl (T.call rfl (p41 (K := [0])  (c0 := 2) (h0_0.up l1 rfl) rfl e8)) ?_
 rintro _ _ ⟨W9, rfl, l9, ⟨rfl, f9_0⟩⟩
 have a10 := a2.t l9 rfl
 refine Lw.g (vI z7.1) rfl (Lw.nil (Cw.seq (Cw.region (Lw.fa rfl (Lw.r rfl (R.ld (v := v0_1_) rfl rfl ((b1.up l9 rfl).cell rfl)) (Lw.m (vI z7.1) rfl ?_))))))
 obtain ⟨z15, e16, hm⟩ := ob hm
 refine Lw.t rfl (T.call rfl (p41 (K := [0])  (c0 := 3) ((h0_1.up l1 rfl).up l9 rfl) rfl e16)) ?_
 rintro _ _ ⟨W17, rfl, l17, ⟨rfl, f17_0⟩⟩
 have a18 := a10.t l17 rfl
 have b22 := (b1.up l9 rfl).up l17 rfl
 refine Lw.g (vI z15.1) rfl (Lw.nil (Cw.seq (Cw.region (Lw.fa rfl (Lw.r rfl (R.ld (v := v0_2_) rfl rfl (b22.cell rfl)) (Lw.m (vI z15.1) rfl ?_))))))
 obtain ⟨z23, e24, hm⟩ := ob hm
 refine Lw.t rfl (T.call rfl (p41 (K := [0])  (c0 := 4) (((h0_2.up l1 rfl).up l9 rfl).up l17 rfl) rfl e24)) ?_
 rintro _ _ ⟨W25, rfl, l25, ⟨rfl, f25_0⟩⟩
 have a26 := a18.t l25 rfl
 refine Lw.g (vI z23.1) rfl (Lw.nil (Cw.seq (Cw.region (Lw.fa rfl (Lw.r rfl (R.ld (v := v0_3_) rfl rfl ((b22.up l25 rfl).cell rfl)) (Lw.m (vI z23.1) rfl ?_))))))
 obtain ⟨z31, e32, hm⟩ := ob hm
 refine Lw.t rfl (T.call rfl (p41 (K := [0])  (c0 := 5) ((((h0_3.up l1 rfl).up l9 rfl).up l17 rfl).up l25 rfl) rfl e32)) ?_
 rintro _ _ ⟨W33, rfl, l33, ⟨rfl, f33_0⟩⟩
 have a34 := a26.t l33 rfl
 refine Lw.g (vI z31.1) rfl (Lw.nil (Cw.seq (Cw.region (Lw.m (vI z31.1) rfl (Lw.g (vI z31.1) rfl (Lw.nil ?_))))))
 cases hm
 exact Cw.ret (ret1 rfl (Res.mk a34 ⟨rfl, (((f9_0.up l17 rfl).up l25 rfl).up l33 rfl), ((f17_0.up l25 rfl).up l33 rfl), (f25_0.up l33 rfl), f33_0⟩))

theorem p25 {W : CW} {K : List Nat} {x0 : Vm.Memo} {v0_0_ : Value} {v0_1_ : Value} {v0_2_ : Value} {v0_3_ : Value} {x1 : Int} {c0 : Nat} {c1 : Nat} {c2 : Nat} {c3 : Nat} {r : Int × Vm.Memo} (h0_0 : Ow W c0 [] [v0_0_] x0.Old) (h0_1 : Ow W c1 [] [v0_1_] x0.One) (h0_2 : Ow W c2 [] [v0_2_] x0.Two) (h0_3 : Ow W c3 [] [v0_3_] x0.Done) (hJ : okJ K [c0, c1, c2, c3] = true) (hm : Vm.laws_markMemo x0 x1 = some r) : CallR Try.prog 25 [.agg [v0_0_, v0_1_, v0_2_, v0_3_].toArray, vI x1].toArray W.w (Res W [c0, c1, c2, c3] fun W' v => v = vI r.1 ∧ Ow W' c0 [] [v0_0_] r.2.Old ∧ Ow W' c1 [] [v0_1_] r.2.One ∧ Ow W' c2 [] [v0_2_] r.2.Two ∧ Ow W' c3 [] [v0_3_] r.2.Done) :=
 CallR.adJ (J := [c0, c1, c2, c3]) (fun c => bif Nat.beq c 0 then 0 else bif Nat.beq c 2 then c0 else bif Nat.beq c 3 then c1 else bif Nat.beq c 4 then c2 else bif Nat.beq c 5 then c3 else 0) (c25 (V := W.view K [c0, c1, c2, c3]) (h0_0.viewJ 0 hJ) (h0_1.viewJ 1 hJ) (h0_2.viewJ 2 hJ) (h0_3.viewJ 3 hJ) hm) fun _ _ ⟨e, f0, f1, f2, f3⟩ => ⟨e, Ow.backJ 0 f0 rfl, Ow.backJ 1 f1 rfl, Ow.backJ 2 f2 rfl, Ow.backJ 3 f3 rfl⟩

theorem c42 {V : CW} {x0 : List Str} {v0_ : Value} {x1 : Int} {r : Int} (h0 : Rd V [0] [v0_] x0) (hm : Vm.laws_heldStringS x0 x1 = some r) : CallR Try.prog 42 [v0_, vI x1].toArray V.w (Res V LL fun Wf v => v = vI r) := by
 unfold Vm.laws_heldStringS at hm
 obtain ⟨W0, hW0⟩ : ∃ W, W = V := ⟨V, rfl⟩
 subst hW0
 refine CallR.of Try.func42 rfl rfl rfl rfl (Cw.seq (Cw.region (Lw.g (vI 0) rfl (Lw.nil (Cw.seq (Cw.seq (Cw.region (Lw.g (vI 0) rfl (Lw.nil (Cw.block ?_))))))))))
 obtain ⟨K5, hK5, hm⟩ := jn_e hm
 refine Cw.loop 6 20 [1, 4, 5] (fun m l w => ∃ (y1 : Int) (y2 : Int) (y3 : Int) (W4 : CW), W4.w = w ∧ Le [] W0 W4 ∧ l = [vI y1, vI y2, vI y3] ∧ Vm.laws_heldStringS_l1 x0 K5 m y1 y2 y3 = some r) (((x0.length : Int) - 0).toNat + 1) ⟨x1, 0, 0, W0, rfl, Le.refl _ _, rfl, hm⟩ ?_
 rintro m6 _ _ σ ⟨y1, y2, y3, W4, rfl, l4, rfl, hm⟩
 obtain _ | m6 := m6
 ·cases hm
 unfold Vm.laws_heldStringS_l1 at hm
 have a7 := l4.o
 refine Cw.seq (Cw.seq (Cw.region (Lw.m (vI y3) rfl (Lw.m v0_ rfl (Lw.ln x0 (h0.ul a7) rfl (Lw.lt rfl (Lw.nil (Cw.cond (b := decide ((y3 : Int) < ((x0.length : Int) : Int))) rfl (fun hc9 => ?_) (fun hc9 => ?_)))))))))
 ·replace hm := bt hm hc9
  refine Cw.skip (Cw.seq (Cw.block (Cw.seq (Cw.seq (Cw.draw [] [(0, 0), (1, 0), (2, 0), (3, 1), (4, 0), (5, 2), (6, 0)] mixed (by kernel_rfl) fun W10 l10 => ?_)))))
  have a11 := a7.n l10
  refine Mw.p rfl rfl (fun _ => R.mv (v := v0_) rfl) (Mw.p rfl rfl (fun _ => R.mv (v := vI y3) rfl) ?_)
  obtain ⟨u12, e13, hm⟩ := ob hm
  refine Mw.p rfl rfl (fun _ => R.ix (α := Str) (h0.ul a11) e13 rfl rfl rfl) (Mw.q rfl rfl (fun _ c => R.ld rfl rfl (cl_cell ((h0.ul a11).at_ e13).1 rfl ((h0.ul a11).at_ e13).str c)) (Mw.p rfl rfl (fun _ => R.mv (v := vI y1) rfl) ?_))
  obtain ⟨z15, e16, hm⟩ := ob hm
  refine Mw.t rfl rfl (T.call rfl (p76 (K := [0])   e16)) ?_
  rintro _ _ ⟨W17, rfl, l17, rfl⟩
  have a18 := a11.n l17
  refine ⟨⟨_, rfl, (l17.sub (M := []) rfl)⟩, ?_⟩
  refine Mw.p rfl rfl (fun _ => R.sne rfl rfl) (Mw.nil (Cw.cond (b := (u12 != z15)) rfl (fun hc19 => ?_) (fun hc19 => ?_)))
  ·replace hm := bt hm hc19
   refine Cw.seq (Cw.region (Lw.g (vI (-1)) rfl (Lw.nil ?_)))
   cases hm
   exact Cw.ret (ret1 rfl (Res.mk a18 rfl))
  ·replace hm := bf hm hc19
   refine Cw.skip (Cw.region (Lw.m (vI y1) rfl (Lw.add rfl (Lw.g (vI (w64 (y1 + 1))) rfl (Lw.nil (Cw.region (Lw.m (vI y3) rfl (Lw.add rfl (Lw.g (vI (w64 (y3 + 1))) rfl (Lw.nil (⟨?_, m6, Nat.lt_succ_self m6, ⟨w64 (y1 + 1), y2, w64 (y3 + 1), W17, rfl, (l4.trans (l10.trans l17)), rfl, hm⟩⟩)))))))))))
   iterate 17 (refine Agree.up rfl ?_)
   iterate 3 (refine Agree.up rfl ?_)
   exact Agree.base
 ·replace hm := bf hm hc9
  refine Cw.exit ?_
  rw [hK5] at hm
  refine Cw.seq (Cw.region (Lw.m (vI y1) rfl (Lw.g (vI y1) rfl (Lw.nil ?_))))
  cases hm
  exact Cw.ret (ret1 rfl (Res.mk a7 rfl))

theorem p42 {W : CW} {K : List Nat} {x0 : List Str} {v0_ : Value} {x1 : Int} {r : Int} (h0 : Rd W K [v0_] x0) (hm : Vm.laws_heldStringS x0 x1 = some r) : CallR Try.prog 42 [v0_, vI x1].toArray W.w (Res W [] fun W' v => v = vI r) :=
 (c42 (V := W.view K []) (h0.view _) hm).ad (fk 0) fun _ _ e => e

theorem c26 {V : CW} {x0 : List Vm.Memo} {v0_ : Value} {x1 : Int} {r : Int} (h0 : Rd V [0] [v0_] x0) (hm : Vm.laws_heldMemoS x0 x1 = some r) : CallR Try.prog 26 [v0_, vI x1].toArray V.w (Res V LL fun Wf v => v = vI r) := by
 unfold Vm.laws_heldMemoS at hm
 obtain ⟨W0, hW0⟩ : ∃ W, W = V := ⟨V, rfl⟩
 subst hW0
 refine CallR.of Try.func26 rfl rfl rfl rfl (Cw.seq (Cw.region (Lw.g (vI 0) rfl (Lw.nil (Cw.seq (Cw.seq (Cw.region (Lw.g (vI 0) rfl (Lw.nil (Cw.block ?_))))))))))
 obtain ⟨K5, hK5, hm⟩ := jn_e hm
 refine Cw.loop 6 47 [1, 4, 5] (fun m l w => ∃ (y1 : Int) (y2 : Int) (y3 : Int) (W4 : CW), W4.w = w ∧ Le [] W0 W4 ∧ l = [vI y1, vI y2, vI y3] ∧ Vm.laws_heldMemoS_l1 x0 K5 m y1 y2 y3 = some r) (((x0.length : Int) - 0).toNat + 1) ⟨x1, 0, 0, W0, rfl, Le.refl _ _, rfl, hm⟩ ?_
 rintro m6 _ _ σ ⟨y1, y2, y3, W4, rfl, l4, rfl, hm⟩
 obtain _ | m6 := m6
 ·cases hm
 unfold Vm.laws_heldMemoS_l1 at hm
 have a7 := l4.o
 refine Cw.seq (Cw.seq (Cw.region ?_))
 have s8 := h0.ul a7
 refine Lw.m (vI y3) rfl (Lw.m v0_ rfl (Lw.ln x0 s8 rfl (Lw.lt rfl (Lw.nil (Cw.cond (b := decide ((y3 : Int) < ((x0.length : Int) : Int))) rfl (fun hc9 => ?_) (fun hc9 => ?_))))))
 ·replace hm := bt hm hc9
  refine Cw.skip (Cw.seq (Cw.block (Cw.seq (Cw.region (Lw.m v0_ rfl (Lw.m (vI y3) rfl ?_))))))
  obtain ⟨u10, e11, hm⟩ := ob hm
  refine Lw.r rfl (R.ix (α := Memo) s8 e11 rfl rfl rfl) (Lw.fa rfl ?_)
  obtain ⟨v12, c13, r14⟩ := (Memo.at0 (s8.at_ e11)).cell rfl
  refine Lw.r rfl (R.ld rfl rfl c13) (Lw.m (vI y1) rfl ?_)
  obtain ⟨z15, e16, hm⟩ := ob hm
  refine Lw.t rfl (T.call rfl (p42 (K := [0])  r14 e16)) ?_
  rintro _ _ ⟨W17, rfl, l17, rfl⟩
  have a18 := a7.n l17
  refine Lw.g (vI z15) rfl (Lw.nil (Cw.seq (Cw.seq (Cw.region (Lw.m (vI z15) rfl (Lw.lt rfl (Lw.nil (Cw.cond (b := decide ((z15 : Int) < (0 : Int))) rfl (fun hc19 => ?_) (fun hc19 => ?_)))))))))
  ·replace hm := bt hm hc19
   refine Cw.seq (Cw.region (Lw.g (vI (-1)) rfl (Lw.nil ?_)))
   cases hm
   exact Cw.ret (ret1 rfl (Res.mk a18 rfl))
  ·replace hm := bf hm hc19
   refine Cw.skip (Cw.seq (Cw.region (Lw.m v0_ rfl (Lw.m (vI y3) rfl ?_))))
   obtain ⟨u20, e21, hm⟩ := ob hm
   refine Lw.r rfl (R.ix (α := Memo) (h0.ul a18) e21 rfl rfl rfl) (Lw.fa rfl ?_)
   obtain ⟨v23, c24, r25⟩ := (Memo.at1 ((h0.ul a18).at_ e21)).cell rfl
   refine Lw.r rfl (R.ld rfl rfl c24) (Lw.m (vI z15) rfl ?_)
   obtain ⟨z26, e27, hm⟩ := ob hm
   refine Lw.t rfl (T.call rfl (p42 (K := [0])  r25 e27)) ?_
   rintro _ _ ⟨W28, rfl, l28, rfl⟩
   have a29 := a18.n l28
   refine Lw.g (vI z26) rfl (Lw.nil (Cw.seq (Cw.seq (Cw.region (Lw.m (vI z26) rfl (Lw.lt rfl (Lw.nil (Cw.cond (b := decide ((z26 : Int) < (0 : Int))) rfl (fun hc30 => ?_) (fun hc30 => ?_)))))))))
   ·replace hm := bt hm hc30
    refine Cw.seq (Cw.region (Lw.g (vI (-1)) rfl (Lw.nil ?_)))
    cases hm
    exact Cw.ret (ret1 rfl (Res.mk a29 rfl))
   ·replace hm := bf hm hc30
    refine Cw.skip (Cw.seq (Cw.region (Lw.m v0_ rfl (Lw.m (vI y3) rfl ?_))))
    obtain ⟨u31, e32, hm⟩ := ob hm
    refine Lw.r rfl (R.ix (α := Memo) (h0.ul a29) e32 rfl rfl rfl) (Lw.fa rfl ?_)
    obtain ⟨v34, c35, r36⟩ := (Memo.at2 ((h0.ul a29).at_ e32)).cell rfl
    refine Lw.r rfl (R.ld rfl rfl c35) (Lw.m (vI z26) rfl ?_)
    obtain ⟨z37, e38, hm⟩ := ob hm
    refine Lw.t rfl (T.call rfl (p42 (K := [0])  r36 e38)) ?_
    rintro _ _ ⟨W39, rfl, l39, rfl⟩
    have a40 := a29.n l39
    refine Lw.g (vI z37) rfl (Lw.nil (Cw.seq (Cw.seq (Cw.region (Lw.m (vI z37) rfl (Lw.lt rfl (Lw.nil (Cw.cond (b := decide ((z37 : Int) < (0 : Int))) rfl (fun hc41 => ?_) (fun hc41 => ?_)))))))))
    ·replace hm := bt hm hc41
     refine Cw.seq (Cw.region (Lw.g (vI (-1)) rfl (Lw.nil ?_)))
     cases hm
     exact Cw.ret (ret1 rfl (Res.mk a40 rfl))
    ·replace hm := bf hm hc41
     refine Cw.skip (Cw.seq (Cw.region (Lw.m v0_ rfl (Lw.m (vI y3) rfl ?_))))
     obtain ⟨u42, e43, hm⟩ := ob hm
     refine Lw.r rfl (R.ix (α := Memo) (h0.ul a40) e43 rfl rfl rfl) (Lw.fa rfl ?_)
     obtain ⟨v45, c46, r47⟩ := (Memo.at3 ((h0.ul a40).at_ e43)).cell rfl
     refine Lw.r rfl (R.ld rfl rfl c46) (Lw.m (vI z37) rfl ?_)
     obtain ⟨z48, e49, hm⟩ := ob hm
     refine Lw.t rfl (T.call rfl (p42 (K := [0])  r47 e49)) ?_
     rintro _ _ ⟨W50, rfl, l50, rfl⟩
     have a51 := a40.n l50
     refine Lw.g (vI z48) rfl (Lw.nil (Cw.seq (Cw.region (Lw.m (vI z48) rfl (Lw.lt rfl (Lw.nil (Cw.cond (b := decide ((z48 : Int) < (0 : Int))) rfl (fun hc52 => ?_) (fun hc52 => ?_))))))))
     ·replace hm := bt hm hc52
      refine Cw.seq (Cw.region (Lw.g (vI (-1)) rfl (Lw.nil ?_)))
      cases hm
      exact Cw.ret (ret1 rfl (Res.mk a51 rfl))
     ·replace hm := bf hm hc52
      refine Cw.skip (Cw.region (Lw.m (vI y3) rfl (Lw.add rfl (Lw.g (vI (w64 (y3 + 1))) rfl (Lw.nil (⟨?_, m6, Nat.lt_succ_self m6, ⟨z48, y2, w64 (y3 + 1), W50, rfl, (l4.trans (l17.trans (l28.trans (l39.trans l50)))), rfl, hm⟩⟩))))))
      iterate 47 (refine Agree.up rfl ?_)
      iterate 3 (refine Agree.up rfl ?_)
      exact Agree.base
 ·replace hm := bf hm hc9
  refine Cw.exit ?_
  rw [hK5] at hm
  refine Cw.seq (Cw.region (Lw.m (vI y1) rfl (Lw.g (vI y1) rfl (Lw.nil ?_))))
  cases hm
  exact Cw.ret (ret1 rfl (Res.mk a7 rfl))

theorem p26 {W : CW} {K : List Nat} {x0 : List Vm.Memo} {v0_ : Value} {x1 : Int} {r : Int} (h0 : Rd W K [v0_] x0) (hm : Vm.laws_heldMemoS x0 x1 = some r) : CallR Try.prog 26 [v0_, vI x1].toArray W.w (Res W [] fun W' v => v = vI r) :=
 (c26 (V := W.view K []) (h0.view _) hm).ad (fk 0) fun _ _ e => e

theorem c5 {V : CW} {x0 : List Vm.Memo} {v0_ : Value} {x1 : Vm.Memo} {v1_0_ : Value} {v1_1_ : Value} {v1_2_ : Value} {v1_3_ : Value} {r : Bool} (h0 : Rd V [0] [v0_] x0) (h1 : Rd V [0] [v1_0_, v1_1_, v1_2_, v1_3_] x1) (hm : Vm.laws_FnExactMemoPut x0 x1 = some r) : CallR Try.prog 5 [v0_, .agg [v1_0_, v1_1_, v1_2_, v1_3_].toArray].toArray V.w (Res V LL fun Wf v => v = vB r) := by
 unfold Vm.laws_FnExactMemoPut at hm
 obtain ⟨w1_0, w1_1, w1_2, w1_3, he1, h1_0, h1_1, h1_2, h1_3⟩ := Memo.split h1
 simp only [List.cons.injEq, and_true, true_and] at he1
 obtain ⟨rfl, rfl, rfl, rfl⟩ := he1
 obtain ⟨W0, hW0⟩ : ∃ W, W = V := ⟨V, rfl⟩
 subst hW0
 refine CallR.of Try.func5 rfl rfl rfl rfl (Cw.seq (Cw.region (Lw.t rfl (T.box 2 (v := .agg [v1_0_, v1_1_, v1_2_, v1_3_].toArray) (cs := [v1_0_, v1_1_, v1_2_, v1_3_]) rfl rfl) ?_)))
 rintro _ _ ⟨g1, W1, rfl, rfl, l1, b1⟩
 have a2 := l1.o
 refine Lw.g (vB false) rfl (Lw.nil (Cw.seq (Cw.region (Lw.g (vI 1048576) rfl (Lw.nil (Cw.seq (Cw.region (Lw.m v0_ rfl (Lw.m (vI 1048576) rfl ?_)))))))))
 obtain ⟨z4, e5, hm⟩ := ob hm
 refine Lw.t rfl (T.call rfl (p12 (K := [0])  (h0.ul a2) e5)) ?_
 rintro _ _ ⟨W6, rfl, l6, rfl⟩
 have a7 := a2.n l6
 refine Lw.g (vI z4) rfl (Lw.nil (Cw.seq (Cw.seq (Cw.region (Lw.m (vI z4) rfl (Lw.lt rfl (Lw.nil (Cw.cond (b := decide ((z4 : Int) < (0 : Int))) rfl (fun hc9 => ?_) (fun hc9 => ?_)))))))))
 ·replace hm := bt hm hc9
  refine Cw.seq (Cw.region (Lw.g (vB true) rfl (Lw.nil ?_)))
  cases hm
  exact Cw.ret (ret1 rfl (Res.mk a7 rfl))
 ·replace hm := bf hm hc9
  refine Cw.skip (Cw.seq (Cw.region (Lw.r rfl (R.lda (cs := [v1_0_, v1_1_, v1_2_, v1_3_]) (b1.up l6 rfl).cells rfl rfl) (Lw.m (vI z4) rfl ?_))))
  obtain ⟨z14, e15, hm⟩ := ob hm
  refine Lw.t rfl (T.call rfl (p21 (K := [0])  (Memo.rd (K := [0]) x1.Old x1.One x1.Two x1.Done (h1_0.ul a7) (h1_1.ul a7) (h1_2.ul a7) (h1_3.ul a7)) e15)) ?_
  rintro _ _ ⟨W16, rfl, l16, rfl⟩
  have a17 := a7.n l16
  refine Lw.g (vI z14) rfl (Lw.nil (Cw.seq (Cw.seq (Cw.region (Lw.m (vI z14) rfl (Lw.lt rfl (Lw.nil (Cw.cond (b := decide ((z14 : Int) < (0 : Int))) rfl (fun hc19 => ?_) (fun hc19 => ?_)))))))))
  ·replace hm := bt hm hc19
   refine Cw.seq (Cw.region (Lw.g (vB true) rfl (Lw.nil ?_)))
   cases hm
   exact Cw.ret (ret1 rfl (Res.mk a17 rfl))
  ·replace hm := bf hm hc19
   refine Cw.skip (Cw.seq (Cw.draw [] [(0, 0), (2, 1), (1, 2), (3, 3), (4, 2), (5, 0), (6, 0), (7, 0), (8, 0), (9, 0)] mixed (by kernel_rfl) fun W20 l20 => ?_))
   have a21 := a17.n l20
   have b22 := ((b1.up l6 rfl).up l16 rfl).up l20 rfl
   refine Mw.p rfl rfl (fun _ => R.mv (v := v0_) rfl) (Mw.q rfl rfl (fun _ c => R.lda (cs := [v1_0_, v1_1_, v1_2_, v1_3_]) (b22.clcs rfl c) rfl rfl) ?_)
   obtain ⟨z24, e25, hm⟩ := ob hm
   refine Mw.t rfl rfl (T.call rfl (p14 (K := [0]) (k0 := 3) (h0.ul a21) e25)) ?_
   rintro v0_26 _ ⟨W26, rfl, l26, ⟨_, rfl, f26_0⟩⟩
   have a27 := a21.n l26
   refine ⟨⟨_, rfl, (l26.sub (M := []) rfl)⟩, ?_⟩
   obtain ⟨z33, e34, hm⟩ := ob hm
   refine Mw.l rfl rfl (T.call rfl (p22 (K := [0]) (k0 := 4) (k1 := 5) (k2 := 6) (k3 := 7) (Memo.rd (K := [0]) x1.Old x1.One x1.Two x1.Done (h1_0.ul a27) (h1_1.ul a27) (h1_2.ul a27) (h1_3.ul a27)) e34)) ?_
   rintro _ _ ⟨W35, rfl, l35, ⟨v0_0_35, v0_1_35, v0_2_35, v0_3_35, rfl, f35_0, f35_1, f35_2, f35_3⟩⟩
   have a36 := a27.n l35
   obtain ⟨z39, e40, hm⟩ := ob hm
   refine Mw.t rfl rfl (T.call rfl (p19 (K := [3, 4, 5, 6, 7]) (k0 := 8) ((f26_0.up l35 rfl).rd.sub (M := [3, 4, 5, 6, 7]) rfl) ((Memo.rd (K := [4, 5, 6, 7]) z33.Old z33.One z33.Two z33.Done (f35_0.rd.sub (M := [4, 5, 6, 7]) rfl) (f35_1.rd.sub (M := [4, 5, 6, 7]) rfl) (f35_2.rd.sub (M := [4, 5, 6, 7]) rfl) (f35_3.rd.sub (M := [4, 5, 6, 7]) rfl)).sub (M := [3, 4, 5, 6, 7]) rfl) e40)) ?_
   rintro _ _ ⟨W41, rfl, l41, ⟨v0_41, rfl, f41_0⟩⟩
   have a42 := a36.n l41
   refine ⟨⟨_, rfl, ((l26.sub (M := []) rfl).trans ((l35.sub (M := []) rfl).trans (l41.sub (M := []) rfl)))⟩, ?_⟩
   refine Mw.p rfl rfl (fun _ => R.mv (v := .tuple [v0_41, vB z39.2].toArray) rfl) (Mw.p rfl rfl (fun _ => R.ext (vs := [v0_41, vB z39.2]) (v := v0_41) rfl rfl) (Mw.p rfl rfl (fun _ => R.ext (vs := [v0_41, vB z39.2]) (v := vB z39.2) rfl rfl) (Mw.p rfl rfl (fun _ => R.as (v := v0_41) rfl) (Mw.p rfl rfl (fun _ => R.as (v := vB z39.2) rfl) (Mw.nil (Cw.seq (Cw.region (Lw.m v0_ rfl ?_))))))))
   obtain ⟨z50, e51, hm⟩ := ob hm
   refine Lw.t rfl (T.call rfl (p14 (K := [0]) (k0 := 9) (h0.ul a42) e51)) ?_
   rintro v0_52 _ ⟨W52, rfl, l52, ⟨_, rfl, f52_0⟩⟩
   have a53 := a42.n l52
   have b60 := (((b22.up l26 rfl).up l35 rfl).up l41 rfl).up l52 rfl
   refine Lw.g v0_52 rfl (Lw.nil (Cw.seq (Cw.region (Lw.r rfl (R.lda (cs := [v1_0_, v1_1_, v1_2_, v1_3_]) b60.cells rfl rfl) ?_))))
   obtain ⟨z65, e66, hm⟩ := ob hm
   refine Lw.t rfl (T.call rfl (p22 (K := [0]) (k0 := 10) (k1 := 11) (k2 := 12) (k3 := 13) (Memo.rd (K := [0]) x1.Old x1.One x1.Two x1.Done (h1_0.ul a53) (h1_1.ul a53) (h1_2.ul a53) (h1_3.ul a53)) e66)) ?_
   rintro _ _ ⟨W67, rfl, l67, ⟨v0_0_67, v0_1_67, v0_2_67, v0_3_67, rfl, f67_0, f67_1, f67_2, f67_3⟩⟩
   have a68 := a53.n l67
   refine Lw.t rfl (T.alloc 14 (cs := [.slice none 0 0, .slice none 0 0, .slice none 0 0, .slice none 0 0]) rfl) ?_
   rintro _ _ ⟨g77, W77, rfl, rfl, l77, b77⟩
   have a78 := a68.n l77
   refine Lw.u (T.sta (vs := [v0_0_67, v0_1_67, v0_2_67, v0_3_67]) b77 rfl rfl (oc_cons (f67_0.up l77 rfl).oc (oc_cons (f67_1.up l77 rfl).oc (oc_cons (f67_2.up l77 rfl).oc (oc_cons (f67_3.up l77 rfl).oc oc_nil)))) rfl rfl) ?_
   rintro _ _ ⟨W91, rfl, l91, b91⟩
   have a92 := a78.t l91 rfl
   have o99 := ((f52_0.up l67 rfl).up l77 rfl).up l91 rfl
   have o100 := (f67_0.up l77 rfl).up l91 rfl
   have o101 := (f67_1.up l77 rfl).up l91 rfl
   have o102 := (f67_2.up l77 rfl).up l91 rfl
   have o103 := (f67_3.up l77 rfl).up l91 rfl
   refine Lw.nil (Cw.seq (Cw.region (Lw.m v0_52 rfl (Lw.r rfl (R.lda (cs := [v0_0_67, v0_1_67, v0_2_67, v0_3_67]) b91.cells rfl rfl) ?_))))
   obtain ⟨z105, e106, hm⟩ := ob hm
   refine Lw.t rfl (T.call rfl (p18 (K := [9, 10, 11, 12, 13]) (k0 := 15) (o99.rd.sub (M := [9, 10, 11, 12, 13]) rfl) ((Memo.rd (K := [10, 11, 12, 13]) z65.Old z65.One z65.Two z65.Done (o100.rd.sub (M := [10, 11, 12, 13]) rfl) (o101.rd.sub (M := [10, 11, 12, 13]) rfl) (o102.rd.sub (M := [10, 11, 12, 13]) rfl) (o103.rd.sub (M := [10, 11, 12, 13]) rfl)).sub (M := [9, 10, 11, 12, 13]) rfl) e106)) ?_
   rintro _ _ ⟨W107, rfl, l107, ⟨v0_107, rfl, f107_0⟩⟩
   have a108 := a92.n l107
   have o114 := ((((f41_0.up l52 rfl).up l67 rfl).up l77 rfl).up l91 rfl).up l107 rfl
   refine Lw.m (.tuple [v0_107, vB z105.2].toArray) rfl (Lw.r rfl (R.ext (vs := [v0_107, vB z105.2]) (v := v0_107) rfl rfl) (Lw.r rfl (R.ext (vs := [v0_107, vB z105.2]) (v := vB z105.2) rfl rfl) (Lw.g v0_107 rfl (Lw.g (vB z105.2) rfl (Lw.nil (Cw.seq ?_))))))
   obtain ⟨K124, hK124, hm⟩ := jn_e hm
   refine Cw.join 45 53 [53] (fun l w => ∃ (y122 : Bool) (W123 : CW), W123.w = w ∧ Le [] W107 W123 ∧ l = [vB y122] ∧ K124 y122 = some r) ?_ ?_
   ·rintro _ _ σ ⟨y122, W123, rfl, l123, rfl, hm⟩
    rw [hK124] at hm
    have a125 := a108.n l123
    refine Cw.cond (b := y122) rfl (fun hc140 => ?_) (fun hc140 => ?_)
    ·replace hm := bt hm hc140
     refine Cw.seq (Cw.region (Lw.g (vB false) rfl (Lw.nil ?_)))
     cases hm
     exact Cw.ret (ret1 rfl (Res.mk a125 rfl))
    ·replace hm := bf hm hc140
     refine Cw.skip (Cw.seq (Cw.seq (Cw.region (Lw.m v0_52 rfl (Lw.m v0_ rfl ?_)))))
     obtain ⟨z142, e143, hm⟩ := ob hm
     refine Lw.t rfl (T.call rfl (p14 (K := [0]) (k0 := 16) (h0.ul a125) e143)) ?_
     rintro v0_144 _ ⟨W144, rfl, l144, ⟨_, rfl, f144_0⟩⟩
     have a145 := a125.n l144
     have o152 := ((o99.up l107 rfl).up l123 rfl).up l144 rfl
     obtain ⟨z160, e161, hm⟩ := ob hm
     refine Lw.t rfl (T.call rfl (p16 (K := [9, 16])  (o152.rd.sub (M := [9, 16]) rfl) (f144_0.rd.sub (M := [9, 16]) rfl) e161)) ?_
     rintro _ _ ⟨W162, rfl, l162, rfl⟩
     have a163 := a145.n l162
     refine Lw.r rfl (R.not rfl) (Lw.nil (Cw.cond (b := (!z160)) rfl (fun hc179 => ?_) (fun hc179 => ?_)))
     ·replace hm := bt hm hc179
      refine Cw.seq (Cw.region (Lw.g (vB false) rfl (Lw.nil ?_)))
      cases hm
      exact Cw.ret (ret1 rfl (Res.mk a163 rfl))
     ·replace hm := bf hm hc179
      refine Cw.skip (Cw.seq (Cw.seq (Cw.draw [] [(0, 1), (1, 1), (2, 2), (3, 2), (4, 0)] mixed (by kernel_rfl) fun W180 l180 => ?_)))
      have a181 := a163.n l180
      have b195 := (((((((b60.up l67 rfl).up l77 rfl).up l91 rfl).up l107 rfl).up l123 rfl).up l144 rfl).up l162 rfl).up l180 rfl
      have b196 := ((((b91.up l107 rfl).up l123 rfl).up l144 rfl).up l162 rfl).up l180 rfl
      refine Mw.q rfl rfl (fun _ c => R.lda (cs := [v0_0_67, v0_1_67, v0_2_67, v0_3_67]) (b196.clcs rfl c) rfl rfl) (Mw.q rfl rfl (fun _ c => R.lda (cs := [v1_0_, v1_1_, v1_2_, v1_3_]) (b195.clcs rfl c) rfl rfl) ?_)
      obtain ⟨z201, e202, hm⟩ := ob hm
      refine Mw.t rfl rfl (T.call rfl (p22 (K := [0]) (k0 := 17) (k1 := 18) (k2 := 19) (k3 := 20) (Memo.rd (K := [0]) x1.Old x1.One x1.Two x1.Done (h1_0.ul a181) (h1_1.ul a181) (h1_2.ul a181) (h1_3.ul a181)) e202)) ?_
      rintro _ _ ⟨W203, rfl, l203, ⟨v0_0_203, v0_1_203, v0_2_203, v0_3_203, rfl, f203_0, f203_1, f203_2, f203_3⟩⟩
      have a204 := a181.n l203
      have o212 := (((((o100.up l107 rfl).up l123 rfl).up l144 rfl).up l162 rfl).up l180 rfl).up l203 rfl
      have o213 := (((((o101.up l107 rfl).up l123 rfl).up l144 rfl).up l162 rfl).up l180 rfl).up l203 rfl
      have o214 := (((((o102.up l107 rfl).up l123 rfl).up l144 rfl).up l162 rfl).up l180 rfl).up l203 rfl
      have o215 := (((((o103.up l107 rfl).up l123 rfl).up l144 rfl).up l162 rfl).up l180 rfl).up l203 rfl
      refine ⟨⟨_, rfl, (l203.sub (M := []) rfl)⟩, ?_⟩
      obtain ⟨z220, e221, hm⟩ := ob hm
      refine Mw.t rfl rfl (T.call rfl (p23 (K := [10, 11, 12, 13, 17, 18, 19, 20])  ((Memo.rd (K := [10, 11, 12, 13]) z65.Old z65.One z65.Two z65.Done (o212.rd.sub (M := [10, 11, 12, 13]) rfl) (o213.rd.sub (M := [10, 11, 12, 13]) rfl) (o214.rd.sub (M := [10, 11, 12, 13]) rfl) (o215.rd.sub (M := [10, 11, 12, 13]) rfl)).sub (M := [10, 11, 12, 13, 17, 18, 19, 20]) rfl) ((Memo.rd (K := [17, 18, 19, 20]) z201.Old z201.One z201.Two z201.Done (f203_0.rd.sub (M := [17, 18, 19, 20]) rfl) (f203_1.rd.sub (M := [17, 18, 19, 20]) rfl) (f203_2.rd.sub (M := [17, 18, 19, 20]) rfl) (f203_3.rd.sub (M := [17, 18, 19, 20]) rfl)).sub (M := [10, 11, 12, 13, 17, 18, 19, 20]) rfl) e221)) ?_
      rintro _ _ ⟨W222, rfl, l222, rfl⟩
      have a223 := a204.n l222
      refine ⟨⟨_, rfl, ((l203.sub (M := []) rfl).trans (l222.sub (M := []) rfl))⟩, ?_⟩
      refine Mw.p rfl rfl (fun _ => R.not rfl) (Mw.nil (Cw.cond (b := (!z220)) rfl (fun hc243 => ?_) (fun hc243 => ?_)))
      ·replace hm := bt hm hc243
       refine Cw.seq (Cw.region (Lw.g (vB false) rfl (Lw.nil ?_)))
       cases hm
       exact Cw.ret (ret1 rfl (Res.mk a223 rfl))
      ·replace hm := bf hm hc243
       refine Cw.skip (Cw.seq (Cw.region (Lw.g (vI 1) rfl (Lw.nil (Cw.seq (Cw.region (Lw.m v0_52 rfl (Lw.m (vI 1) rfl ?_))))))))
       obtain ⟨z244, e245, hm⟩ := ob hm
       refine Lw.t rfl (T.call rfl (p24 (K := [0])  (c0 := 9) ((((o152.up l162 rfl).up l180 rfl).up l203 rfl).up l222 rfl) rfl e245)) ?_
       rintro _ _ ⟨W246, rfl, l246, ⟨rfl, f246_0⟩⟩
       have a247 := a223.t l246 rfl
       refine Lw.g (vI z244.1) rfl (Lw.nil (Cw.seq (Cw.region (Lw.r rfl (R.lda (cs := [v0_0_67, v0_1_67, v0_2_67, v0_3_67]) (((b196.up l203 rfl).up l222 rfl).up l246 rfl).cells rfl rfl) (Lw.m (vI z244.1) rfl ?_)))))
       obtain ⟨z266, e267, hm⟩ := ob hm
       refine Lw.t rfl (T.call rfl (p25 (K := [0])  (c0 := 10) (c1 := 11) (c2 := 12) (c3 := 13) (x0 := (Vm.Memo.mk z65.Old z65.One z65.Two z65.Done)) ((o212.up l222 rfl).up l246 rfl) ((o213.up l222 rfl).up l246 rfl) ((o214.up l222 rfl).up l246 rfl) ((o215.up l222 rfl).up l246 rfl) rfl e267)) ?_
       rintro _ _ ⟨W268, rfl, l268, ⟨rfl, f268_0, f268_1, f268_2, f268_3⟩⟩
       have a269 := a247.t l268 rfl
       have o275 := (((((((o114.up l123 rfl).up l144 rfl).up l162 rfl).up l180 rfl).up l203 rfl).up l222 rfl).up l246 rfl).up l268 rfl
       have o277 := (((((((f107_0.up l123 rfl).up l144 rfl).up l162 rfl).up l180 rfl).up l203 rfl).up l222 rfl).up l246 rfl).up l268 rfl
       refine Lw.g (vI z266.1) rfl (Lw.nil (Cw.seq ?_))
       obtain ⟨K287, hK287, hm⟩ := jn_e hm
       refine Cw.join 70 82 [82] (fun l w => ∃ (y285 : Bool) (W286 : CW), W286.w = w ∧ Le [] W268 W286 ∧ l = [vB y285] ∧ K287 y285 = some r) ?_ ?_
       ·rintro _ _ σ ⟨y285, W286, rfl, l286, rfl, hm⟩
        rw [hK287] at hm
        have a288 := a269.n l286
        refine Cw.cond (b := y285) rfl (fun hc308 => ?_) (fun hc308 => ?_)
        ·replace hm := bt hm hc308
         refine Cw.seq (Cw.region (Lw.g (vB false) rfl (Lw.nil ?_)))
         cases hm
         exact Cw.ret (ret1 rfl (Res.mk a288 rfl))
        ·replace hm := bf hm hc308
         refine Cw.skip (Cw.seq (Cw.region (Lw.g (vI 1) rfl (Lw.nil (Cw.seq (Cw.region (Lw.m v0_107 rfl (Lw.m (vI 1) rfl ?_))))))))
         obtain ⟨z309, e310, hm⟩ := ob hm
         refine Lw.t rfl (T.call rfl (p24 (K := [0])  (c0 := 15) (o277.up l286 rfl) rfl e310)) ?_
         rintro _ _ ⟨W311, rfl, l311, ⟨rfl, f311_0⟩⟩
         have a312 := a288.t l311 rfl
         refine Lw.g (vI z309.1) rfl (Lw.nil (Cw.seq (Cw.region (Lw.g (vI 1) rfl (Lw.nil (Cw.seq (Cw.region (Lw.m v0_107 rfl (Lw.m (vI 1) rfl ?_)))))))))
         obtain ⟨z331, e332, hm⟩ := ob hm
         refine Lw.t rfl (T.call rfl (p26 (K := [15])  f311_0.rd e332)) ?_
         rintro _ _ ⟨W333, rfl, l333, rfl⟩
         have a334 := a312.n l333
         refine Lw.g (vI z331) rfl (Lw.nil (Cw.seq (Cw.seq (Cw.region (Lw.m (vI z331) rfl (Lw.lt rfl (Lw.nil (Cw.cond (b := decide ((z331 : Int) < (0 : Int))) rfl (fun hc354 => ?_) (fun hc354 => ?_)))))))))
         ·replace hm := bt hm hc354
          refine Cw.seq (Cw.region (Lw.g (vB false) rfl (Lw.nil ?_)))
          cases hm
          exact Cw.ret (ret1 rfl (Res.mk a334 rfl))
         ·replace hm := bf hm hc354
          refine Cw.skip (Cw.seq (Cw.seq (Cw.region (Lw.m (vI z331) rfl (Lw.m (vI z309.1) rfl (Lw.ne rfl (Lw.nil (Cw.cond (b := ((z331 : Int) != (z309.1 : Int))) rfl (fun hc355 => ?_) (fun hc355 => ?_)))))))))
          ·replace hm := bt hm hc355
           refine Cw.seq (Cw.region (Lw.g (vB false) rfl (Lw.nil ?_)))
           cases hm
           exact Cw.ret (ret1 rfl (Res.mk a334 rfl))
          ·replace hm := bf hm hc355
           refine Cw.skip (Cw.seq (Cw.draw [] [(0, 0), (2, 1), (1, 2), (3, 3), (4, 2), (5, 0), (6, 0), (7, 0), (8, 0), (9, 0)] mixed (by kernel_rfl) fun W356 l356 => ?_))
           have a357 := a334.n l356
           refine Mw.p rfl rfl (fun _ => R.mv (v := v0_) rfl) (Mw.q rfl rfl (fun _ c => R.lda (cs := [v1_0_, v1_1_, v1_2_, v1_3_]) (((((((((b195.up l203 rfl).up l222 rfl).up l246 rfl).up l268 rfl).up l286 rfl).up l311 rfl).up l333 rfl).up l356 rfl).clcs rfl c) rfl rfl) ?_)
           obtain ⟨z378, e379, hm⟩ := ob hm
           refine Mw.t rfl rfl (T.call rfl (p14 (K := [0]) (k0 := 21) (h0.ul a357) e379)) ?_
           rintro v0_380 _ ⟨W380, rfl, l380, ⟨_, rfl, f380_0⟩⟩
           have a381 := a357.n l380
           refine ⟨⟨_, rfl, (l380.sub (M := []) rfl)⟩, ?_⟩
           obtain ⟨z405, e406, hm⟩ := ob hm
           refine Mw.l rfl rfl (T.call rfl (p22 (K := [0]) (k0 := 22) (k1 := 23) (k2 := 24) (k3 := 25) (Memo.rd (K := [0]) x1.Old x1.One x1.Two x1.Done (h1_0.ul a381) (h1_1.ul a381) (h1_2.ul a381) (h1_3.ul a381)) e406)) ?_
           rintro _ _ ⟨W407, rfl, l407, ⟨v0_0_407, v0_1_407, v0_2_407, v0_3_407, rfl, f407_0, f407_1, f407_2, f407_3⟩⟩
           have a408 := a381.n l407
           obtain ⟨z429, e430, hm⟩ := ob hm
           refine Mw.t rfl rfl (T.call rfl (p18 (K := [21, 22, 23, 24, 25]) (k0 := 26) ((f380_0.up l407 rfl).rd.sub (M := [21, 22, 23, 24, 25]) rfl) ((Memo.rd (K := [22, 23, 24, 25]) z405.Old z405.One z405.Two z405.Done (f407_0.rd.sub (M := [22, 23, 24, 25]) rfl) (f407_1.rd.sub (M := [22, 23, 24, 25]) rfl) (f407_2.rd.sub (M := [22, 23, 24, 25]) rfl) (f407_3.rd.sub (M := [22, 23, 24, 25]) rfl)).sub (M := [21, 22, 23, 24, 25]) rfl) e430)) ?_
           rintro _ _ ⟨W431, rfl, l431, ⟨v0_431, rfl, f431_0⟩⟩
           have a432 := a408.n l431
           refine ⟨⟨_, rfl, ((l380.sub (M := []) rfl).trans ((l407.sub (M := []) rfl).trans (l431.sub (M := []) rfl)))⟩, ?_⟩
           refine Mw.p rfl rfl (fun _ => R.mv (v := .tuple [v0_431, vB z429.2].toArray) rfl) (Mw.p rfl rfl (fun _ => R.ext (vs := [v0_431, vB z429.2]) (v := v0_431) rfl rfl) (Mw.p rfl rfl (fun _ => R.ext (vs := [v0_431, vB z429.2]) (v := vB z429.2) rfl rfl) (Mw.p rfl rfl (fun _ => R.as (v := v0_431) rfl) (Mw.p rfl rfl (fun _ => R.as (v := vB z429.2) rfl) (Mw.nil (Cw.seq ?_))))))
           obtain ⟨K459, hK459, hm⟩ := jn_e hm
           refine Cw.join 102 110 [110] (fun l w => ∃ (y457 : Bool) (W458 : CW), W458.w = w ∧ Le [] W431 W458 ∧ l = [vB y457] ∧ K459 y457 = some r) ?_ ?_
           ·rintro _ _ σ ⟨y457, W458, rfl, l458, rfl, hm⟩
            rw [hK459] at hm
            have a460 := a432.n l458
            refine Cw.cond (b := y457) rfl (fun hc486 => ?_) (fun hc486 => ?_)
            ·replace hm := bt hm hc486
             refine Cw.seq (Cw.region (Lw.g (vB false) rfl (Lw.nil ?_)))
             cases hm
             exact Cw.ret (ret1 rfl (Res.mk a460 rfl))
            ·replace hm := bf hm hc486
             refine Cw.skip (Cw.seq (Cw.region (Lw.g (vI 1) rfl (Lw.nil (Cw.seq (Cw.region (Lw.m v0_107 rfl (Lw.m (vI 1) rfl ?_))))))))
             obtain ⟨z487, e488, hm⟩ := ob hm
             refine Lw.t rfl (T.call rfl (p26 (K := [15])  ((((((f311_0.up l333 rfl).up l356 rfl).up l380 rfl).up l407 rfl).up l431 rfl).up l458 rfl).rd e488)) ?_
             rintro _ _ ⟨W489, rfl, l489, rfl⟩
             have a490 := a460.n l489
             refine Lw.g (vI z487) rfl (Lw.nil (Cw.seq (Cw.seq (Cw.region (Lw.m (vI z487) rfl (Lw.lt rfl (Lw.nil (Cw.cond (b := decide ((z487 : Int) < (0 : Int))) rfl (fun hc516 => ?_) (fun hc516 => ?_)))))))))
             ·replace hm := bt hm hc516
              refine Cw.seq (Cw.region (Lw.g (vB false) rfl (Lw.nil ?_)))
              cases hm
              exact Cw.ret (ret1 rfl (Res.mk a490 rfl))
             ·replace hm := bf hm hc516
              refine Cw.skip (Cw.seq (Cw.seq (Cw.region (Lw.m (vI z487) rfl (Lw.m (vI z309.1) rfl (Lw.ne rfl (Lw.nil (Cw.cond (b := ((z487 : Int) != (z309.1 : Int))) rfl (fun hc517 => ?_) (fun hc517 => ?_)))))))))
              ·replace hm := bt hm hc517
               refine Cw.seq (Cw.region (Lw.g (vB false) rfl (Lw.nil ?_)))
               cases hm
               exact Cw.ret (ret1 rfl (Res.mk a490 rfl))
              ·replace hm := bf hm hc517
               refine Cw.skip (Cw.seq (Cw.region (Lw.g (vB true) rfl (Lw.nil ?_))))
               cases hm
               exact Cw.ret (ret1 rfl (Res.mk a490 rfl))
           ·refine Cw.region (Lw.m v0_431 rfl (Lw.m v0_41 rfl ?_))
            obtain ⟨z518, e519, hm⟩ := ob hm
            refine Lw.t rfl (T.call rfl (p16 (K := [8, 26])  (f431_0.rd.sub (M := [8, 26]) rfl) ((((((((o275.up l286 rfl).up l311 rfl).up l333 rfl).up l356 rfl).up l380 rfl).up l407 rfl).up l431 rfl).rd.sub (M := [8, 26]) rfl) e519)) ?_
            rintro _ _ ⟨W520, rfl, l520, rfl⟩
            refine Lw.r rfl (R.not rfl) (Lw.m (vB (!z518)) rfl (bsplit (!z518) (fun hc547 => ?_) (fun hc547 => ?_)))
            ·replace hm := bt hm hc547
             refine Lw.pass' hc547 rfl rfl rfl rfl rfl rfl rfl (Lw.pass' hc547 rfl rfl rfl rfl rfl rfl rfl (Lw.pass' hc547 rfl rfl rfl rfl rfl rfl rfl (Lw.p hc547 (vB true) rfl (Lw.nil (⟨?_, ⟨true, W520, rfl, l520, rfl, hm⟩⟩)))))
             iterate 9 (refine Agree.up rfl ?_)
             exact Agree.refl _
            ·replace hm := bf hm hc547
             refine Lw.want' hc547 rfl rfl rfl rfl (Lw.m (vB z429.2) rfl (Lw.want' hc547 rfl rfl rfl rfl (Lw.m (vB z39.2) rfl (Lw.want' hc547 rfl rfl rfl rfl (Lw.r rfl (R.bne rfl rfl) (Lw.p hc547 (vB (z429.2 != z39.2)) rfl (Lw.nil (⟨?_, ⟨(z429.2 != z39.2), W520, rfl, l520, rfl, hm⟩⟩))))))))
             iterate 9 (refine Agree.up rfl ?_)
             exact Agree.refl _
       ·refine Cw.region (Lw.m (vI z266.1) rfl (Lw.lt rfl (Lw.m (vB (decide ((z266.1 : Int) < (0 : Int)))) rfl (bsplit (decide ((z266.1 : Int) < (0 : Int))) (fun hc548 => ?_) (fun hc548 => ?_)))))
        ·replace hm := bt hm hc548
         refine Lw.pass' hc548 rfl rfl rfl rfl rfl rfl rfl (Lw.pass' hc548 rfl rfl rfl rfl rfl rfl rfl (Lw.pass' hc548 rfl rfl rfl rfl rfl rfl rfl (Lw.pass' hc548 rfl rfl rfl rfl rfl rfl rfl (Lw.p hc548 (vB true) rfl (Lw.m (vB true) rfl (Lw.pass' rfl rfl rfl rfl rfl rfl rfl rfl (Lw.pass' rfl rfl rfl rfl rfl rfl rfl rfl (Lw.pass' rfl rfl rfl rfl rfl rfl rfl rfl (Lw.p rfl (vB true) rfl (Lw.nil (⟨?_, ⟨true, W268, rfl, Le.refl _ _, rfl, hm⟩⟩)))))))))))
         iterate 13 (refine Agree.up rfl ?_)
         exact Agree.refl _
        ·replace hm := bf hm hc548
         refine Lw.want' hc548 rfl rfl rfl rfl (Lw.m v0_107 rfl (Lw.want' hc548 rfl rfl rfl rfl (Lw.m v0_41 rfl (Lw.want' hc548 rfl rfl rfl rfl ?_))))
         obtain ⟨z549, e550, hm⟩ := ob hm
         refine Lw.t rfl (T.call rfl (p16 (K := [8, 15])  (o277.rd.sub (M := [8, 15]) rfl) (o275.rd.sub (M := [8, 15]) rfl) e550)) ?_
         rintro _ _ ⟨W551, rfl, l551, rfl⟩
         refine Lw.want' hc548 rfl rfl rfl rfl (Lw.r rfl (R.not rfl) (Lw.p hc548 (vB (!z549)) rfl (Lw.m (vB (!z549)) rfl (bsplit (!z549) (fun hc572 => ?_) (fun hc572 => ?_)))))
         ·replace hm := bt hm hc572
          refine Lw.pass' hc572 rfl rfl rfl rfl rfl rfl rfl (Lw.pass' hc572 rfl rfl rfl rfl rfl rfl rfl (Lw.pass' hc572 rfl rfl rfl rfl rfl rfl rfl (Lw.p hc572 (vB true) rfl (Lw.nil (⟨?_, ⟨true, W551, rfl, l551, rfl, hm⟩⟩)))))
          iterate 13 (refine Agree.up rfl ?_)
          exact Agree.refl _
         ·replace hm := bf hm hc572
          refine Lw.want' hc572 rfl rfl rfl rfl (Lw.m (vB z105.2) rfl (Lw.want' hc572 rfl rfl rfl rfl (Lw.m (vB z39.2) rfl (Lw.want' hc572 rfl rfl rfl rfl (Lw.r rfl (R.bne rfl rfl) (Lw.p hc572 (vB (z105.2 != z39.2)) rfl (Lw.nil (⟨?_, ⟨(z105.2 != z39.2), W551, rfl, l551, rfl, hm⟩⟩))))))))
          iterate 13 (refine Agree.up rfl ?_)
          exact Agree.refl _
   ·refine Cw.region (Lw.m v0_107 rfl (Lw.m v0_41 rfl ?_))
    obtain ⟨z573, e574, hm⟩ := ob hm
    refine Lw.t rfl (T.call rfl (p16 (K := [8, 15])  (f107_0.rd.sub (M := [8, 15]) rfl) (o114.rd.sub (M := [8, 15]) rfl) e574)) ?_
    rintro _ _ ⟨W575, rfl, l575, rfl⟩
    refine Lw.r rfl (R.not rfl) (Lw.m (vB (!z573)) rfl (bsplit (!z573) (fun hc591 => ?_) (fun hc591 => ?_)))
    ·replace hm := bt hm hc591
     refine Lw.pass' hc591 rfl rfl rfl rfl rfl rfl rfl (Lw.pass' hc591 rfl rfl rfl rfl rfl rfl rfl (Lw.pass' hc591 rfl rfl rfl rfl rfl rfl rfl (Lw.p hc591 (vB true) rfl (Lw.nil (⟨?_, ⟨true, W575, rfl, l575, rfl, hm⟩⟩)))))
     iterate 9 (refine Agree.up rfl ?_)
     exact Agree.refl _
    ·replace hm := bf hm hc591
     refine Lw.want' hc591 rfl rfl rfl rfl (Lw.m (vB z105.2) rfl (Lw.want' hc591 rfl rfl rfl rfl (Lw.m (vB z39.2) rfl (Lw.want' hc591 rfl rfl rfl rfl (Lw.r rfl (R.bne rfl rfl) (Lw.p hc591 (vB (z105.2 != z39.2)) rfl (Lw.nil (⟨?_, ⟨(z105.2 != z39.2), W575, rfl, l575, rfl, hm⟩⟩))))))))
     iterate 9 (refine Agree.up rfl ?_)
     exact Agree.refl _

theorem p5 {W : CW} {K : List Nat} {x0 : List Vm.Memo} {v0_ : Value} {x1 : Vm.Memo} {v1_0_ : Value} {v1_1_ : Value} {v1_2_ : Value} {v1_3_ : Value} {r : Bool} (h0 : Rd W K [v0_] x0) (h1 : Rd W K [v1_0_, v1_1_, v1_2_, v1_3_] x1) (hm : Vm.laws_FnExactMemoPut x0 x1 = some r) : CallR Try.prog 5 [v0_, .agg [v1_0_, v1_1_, v1_2_, v1_3_].toArray].toArray W.w (Res W [] fun W' v => v = vB r) :=
 (c5 (V := W.view K []) (h0.view _) (h1.view _) hm).ad (fk 0) fun _ _ e => e

end Go.Sx
