/- Walks: each function answers as its model, printed by a program of ours. Conditions: the arguments read as they are given. -/
import Derived.Test.YtmjjhnahdmlmaaaDoorXTs
import Derived.Test.YtmjjhnahdmlmaaaDoorXMd
namespace Go.Sx
open Go Go.Proofs Go.Vm Rp
set_option linter.unusedVariables false
set_option linter.unusedSimpArgs false

theorem c47 {V : CW} {x0 : List Str} {v0_ : Value} {x1 : Int} {r : Int} (h0 : Rd V [0] [v0_] x0) (hm : Vm.laws_szStringS x0 x1 = some r) : CallR Tryd.prog 47 [v0_, vI x1].toArray V.w (Res V LL fun Wf v => v = vI r) := by
 unfold Vm.laws_szStringS at hm
 obtain ⟨W0, hW0⟩ : ∃ W, W = V := ⟨V, rfl⟩
 subst hW0
 refine CallR.of Tryd.func47 rfl rfl rfl rfl (Cw.seq (Cw.region (Lw.g (vI 0) rfl (Lw.nil (Cw.seq (Cw.region (Lw.m (vI x1) rfl (Lw.m v0_ rfl (Lw.ln x0 h0 rfl (Lw.sub rfl (Lw.g (vI (w64 (x1 - (x0.length : Int)))) rfl (Lw.nil (Cw.seq (Cw.seq (Cw.region (Lw.m (vI (w64 (x1 - (x0.length : Int)))) rfl (Lw.lt rfl (Lw.nil (Cw.cond (b := decide ((w64 (x1 - (x0.length : Int)) : Int) < (0 : Int))) rfl (fun hc1 => ?_) (fun hc1 => ?_))))))))))))))))))))
 ·replace hm := bt hm hc1
  refine Cw.seq (Cw.region (Lw.g (vI (-1)) rfl (Lw.nil ?_)))
  cases hm
  exact Cw.ret (ret1 rfl (Res.mk (Le.refl _ _) rfl))
 ·replace hm := bf hm hc1
  refine Cw.skip (Cw.seq (Cw.seq (Cw.region (Lw.g (vI 0) rfl (Lw.nil (Cw.block ?_))))))
  obtain ⟨K6, hK6, hm⟩ := jn_e hm
  refine Cw.loop 12 26 [1, 4, 5] (fun m l w => ∃ (y2 : Int) (y3 : Int) (y4 : Int) (W5 : CW), W5.w = w ∧ Le [] W0 W5 ∧ l = [vI y2, vI y3, vI y4] ∧ Vm.laws_szStringS_l1 x0 K6 m y2 y3 y4 = some r) (((x0.length : Int) - 0).toNat + 1) ⟨w64 (x1 - (x0.length : Int)), 0, 0, W0, rfl, Le.refl _ _, rfl, hm⟩ ?_
  rintro m7 _ _ σ ⟨y2, y3, y4, W5, rfl, l5, rfl, hm⟩
  obtain _ | m7 := m7
  ·cases hm
  unfold Vm.laws_szStringS_l1 at hm
  have a8 := l5.o
  refine Cw.seq (Cw.seq (Cw.region ?_))
  have s9 := h0.ul a8
  refine Lw.m (vI y4) rfl (Lw.m v0_ rfl (Lw.ln x0 s9 rfl (Lw.lt rfl (Lw.nil (Cw.cond (b := decide ((y4 : Int) < ((x0.length : Int) : Int))) rfl (fun hc10 => ?_) (fun hc10 => ?_))))))
  ·replace hm := bt hm hc10
   refine Cw.skip (Cw.seq (Cw.block (Cw.seq (Cw.region (Lw.m (vI y2) rfl (Lw.m v0_ rfl (Lw.m (vI y4) rfl ?_)))))))
   obtain ⟨u11, e12, hm⟩ := ob hm
   refine Lw.r rfl (R.ix (α := Str) s9 e12 rfl rfl rfl) (Lw.r rfl (R.ld rfl rfl (s9.at_ e12).str) (Lw.r rfl (R.lenS rfl) (Lw.sub rfl (Lw.g (vI (w64 (y2 - (u11.length : Int)))) rfl (Lw.nil (Cw.seq (Cw.region (Lw.m (vI (w64 (y2 - (u11.length : Int)))) rfl (Lw.lt rfl (Lw.nil (Cw.cond (b := decide ((w64 (y2 - (u11.length : Int)) : Int) < (0 : Int))) rfl (fun hc13 => ?_) (fun hc13 => ?_))))))))))))
   ·replace hm := bt hm hc13
    refine Cw.seq (Cw.region (Lw.g (vI (-1)) rfl (Lw.nil ?_)))
    cases hm
    exact Cw.ret (ret1 rfl (Res.mk a8 rfl))
   ·replace hm := bf hm hc13
    refine Cw.skip (Cw.region (Lw.m (vI y4) rfl (Lw.add rfl (Lw.g (vI (w64 (y4 + 1))) rfl (Lw.nil (⟨?_, m7, Nat.lt_succ_self m7, ⟨w64 (y2 - (u11.length : Int)), y3, w64 (y4 + 1), W5, rfl, l5, rfl, hm⟩⟩))))))
    iterate 17 (refine Agree.up rfl ?_)
    iterate 3 (refine Agree.up rfl ?_)
    exact Agree.base
  ·replace hm := bf hm hc10
   refine Cw.exit ?_
   rw [hK6] at hm
   refine Cw.seq (Cw.region (Lw.m (vI y2) rfl (Lw.g (vI y2) rfl (Lw.nil ?_))))
   cases hm
   exact Cw.ret (ret1 rfl (Res.mk a8 rfl))

theorem p47 {W : CW} {K : List Nat} {x0 : List Str} {v0_ : Value} {x1 : Int} {r : Int} (h0 : Rd W K [v0_] x0) (hm : Vm.laws_szStringS x0 x1 = some r) : CallR Tryd.prog 47 [v0_, vI x1].toArray W.w (Res W [] fun W' v => v = vI r) :=
 (c47 (V := W.view K []) (h0.view _) hm).ad (fk 0) fun _ _ e => e

theorem c10 {V : CW} {x0 : Vm.Op} {v0_6_ : Value} {x1 : Int} {r : Int} (h0 : Rd V [0] [vI x0.Kind, vS x0.Branch, vS x0.Who, vS x0.Path, vS x0.To, vI x0.At, v0_6_] x0) (hm : Vm.laws_szOp x0 x1 = some r) : CallR Tryd.prog 10 [.agg [vI x0.Kind, vS x0.Branch, vS x0.Who, vS x0.Path, vS x0.To, vI x0.At, v0_6_].toArray, vI x1].toArray V.w (Res V LL fun Wf v => v = vI r) := by
 unfold Vm.laws_szOp at hm
 obtain ⟨w0_0, he0, h0_6⟩ := Op.split h0
 simp only [List.cons.injEq, and_true, true_and] at he0
 obtain rfl := he0
 obtain ⟨W0, hW0⟩ : ∃ W, W = V := ⟨V, rfl⟩
 subst hW0
 refine CallR.of Tryd.func10 rfl rfl rfl rfl (Cw.seq (Cw.region (Lw.t rfl (T.box 2 (v := .agg [vI x0.Kind, vS x0.Branch, vS x0.Who, vS x0.Path, vS x0.To, vI x0.At, v0_6_].toArray) (cs := [vI x0.Kind, vS x0.Branch, vS x0.Who, vS x0.Path, vS x0.To, vI x0.At, v0_6_]) rfl rfl) ?_)))
 rintro _ _ ⟨g1, W1, rfl, rfl, l1, b1⟩
 have a2 := l1.o
 refine Lw.g (vI 0) rfl (Lw.nil (Cw.seq (Cw.region (Lw.m (vI x1) rfl (Lw.fa rfl (Lw.r rfl (R.ld (v := vS x0.Branch) rfl rfl (b1.cell rfl)) (Lw.r rfl (R.lenS rfl) (Lw.sub rfl (Lw.g (vI (w64 (x1 - (x0.Branch.length : Int)))) rfl (Lw.nil (Cw.seq (Cw.seq (Cw.region (Lw.m (vI (w64 (x1 - (x0.Branch.length : Int)))) rfl (Lw.lt rfl (Lw.nil (Cw.cond (b := decide ((w64 (x1 - (x0.Branch.length : Int)) : Int) < (0 : Int))) rfl (fun hc3 => ?_) (fun hc3 => ?_))))))))))))))))))
 ·replace hm := bt hm hc3
  refine Cw.seq (Cw.region (Lw.g (vI (-1)) rfl (Lw.nil ?_)))
  cases hm
  exact Cw.ret (ret1 rfl (Res.mk a2 rfl))
 ·replace hm := bf hm hc3
  refine Cw.skip (Cw.seq (Cw.region (Lw.m (vI (w64 (x1 - (x0.Branch.length : Int)))) rfl (Lw.fa rfl (Lw.r rfl (R.ld (v := vS x0.Who) rfl rfl (b1.cell rfl)) (Lw.r rfl (R.lenS rfl) (Lw.sub rfl (Lw.g (vI (w64 ((w64 (x1 - (x0.Branch.length : Int))) - (x0.Who.length : Int)))) rfl (Lw.nil (Cw.seq (Cw.seq (Cw.region (Lw.m (vI (w64 ((w64 (x1 - (x0.Branch.length : Int))) - (x0.Who.length : Int)))) rfl (Lw.lt rfl (Lw.nil (Cw.cond (b := decide ((w64 ((w64 (x1 - (x0.Branch.length : Int))) - (x0.Who.length : Int)) : Int) < (0 : Int))) rfl (fun hc4 => ?_) (fun hc4 => ?_)))))))))))))))))
  ·replace hm := bt hm hc4
   refine Cw.seq (Cw.region (Lw.g (vI (-1)) rfl (Lw.nil ?_)))
   cases hm
   exact Cw.ret (ret1 rfl (Res.mk a2 rfl))
  ·replace hm := bf hm hc4
   refine Cw.skip (Cw.seq (Cw.region (Lw.m (vI (w64 ((w64 (x1 - (x0.Branch.length : Int))) - (x0.Who.length : Int)))) rfl (Lw.fa rfl (Lw.r rfl (R.ld (v := vS x0.Path) rfl rfl (b1.cell rfl)) (Lw.r rfl (R.lenS rfl) (Lw.sub rfl (Lw.g (vI (w64 ((w64 ((w64 (x1 - (x0.Branch.length : Int))) - (x0.Who.length : Int))) - (x0.Path.length : Int)))) rfl (Lw.nil (Cw.seq (Cw.seq (Cw.region (Lw.m (vI (w64 ((w64 ((w64 (x1 - (x0.Branch.length : Int))) - (x0.Who.length : Int))) - (x0.Path.length : Int)))) rfl (Lw.lt rfl (Lw.nil (Cw.cond (b := decide ((w64 ((w64 ((w64 (x1 - (x0.Branch.length : Int))) - (x0.Who.length : Int))) - (x0.Path.length : Int)) : Int) < (0 : Int))) rfl (fun hc5 => ?_) (fun hc5 => ?_)))))))))))))))))
   ·replace hm := bt hm hc5
    refine Cw.seq (Cw.region (Lw.g (vI (-1)) rfl (Lw.nil ?_)))
    cases hm
    exact Cw.ret (ret1 rfl (Res.mk a2 rfl))
   ·replace hm := bf hm hc5
    refine Cw.skip (Cw.seq (Cw.region (Lw.m (vI (w64 ((w64 ((w64 (x1 - (x0.Branch.length : Int))) - (x0.Who.length : Int))) - (x0.Path.length : Int)))) rfl (Lw.fa rfl (Lw.r rfl (R.ld (v := vS x0.To) rfl rfl (b1.cell rfl)) (Lw.r rfl (R.lenS rfl) (Lw.sub rfl (Lw.g (vI (w64 ((w64 ((w64 ((w64 (x1 - (x0.Branch.length : Int))) - (x0.Who.length : Int))) - (x0.Path.length : Int))) - (x0.To.length : Int)))) rfl (Lw.nil (Cw.seq (Cw.seq (Cw.region (Lw.m (vI (w64 ((w64 ((w64 ((w64 (x1 - (x0.Branch.length : Int))) - (x0.Who.length : Int))) - (x0.Path.length : Int))) - (x0.To.length : Int)))) rfl (Lw.lt rfl (Lw.nil (Cw.cond (b := decide ((w64 ((w64 ((w64 ((w64 (x1 - (x0.Branch.length : Int))) - (x0.Who.length : Int))) - (x0.Path.length : Int))) - (x0.To.length : Int)) : Int) < (0 : Int))) rfl (fun hc6 => ?_) (fun hc6 => ?_)))))))))))))))))
    ·replace hm := bt hm hc6
     refine Cw.seq (Cw.region (Lw.g (vI (-1)) rfl (Lw.nil ?_)))
     cases hm
     exact Cw.ret (ret1 rfl (Res.mk a2 rfl))
    ·replace hm := bf hm hc6
     refine Cw.skip (Cw.seq (Cw.region (Lw.fa rfl (Lw.r rfl (R.ld (v := v0_6_) rfl rfl (b1.cell rfl)) (Lw.m (vI (w64 ((w64 ((w64 ((w64 (x1 - (x0.Branch.length : Int))) - (x0.Who.length : Int))) - (x0.Path.length : Int))) - (x0.To.length : Int)))) rfl ?_)))))
     obtain ⟨z8, e9, hm⟩ := ob hm
     refine Lw.t rfl (T.call rfl (p47 (K := [0])  (h0_6.ul a2) e9)) ?_
     rintro _ _ ⟨W10, rfl, l10, rfl⟩
     have a11 := a2.n l10
     refine Lw.g (vI z8) rfl (Lw.nil (Cw.seq (Cw.seq (Cw.region (Lw.m (vI z8) rfl (Lw.lt rfl (Lw.nil (Cw.cond (b := decide ((z8 : Int) < (0 : Int))) rfl (fun hc13 => ?_) (fun hc13 => ?_)))))))))
     ·replace hm := bt hm hc13
      refine Cw.seq (Cw.region (Lw.g (vI (-1)) rfl (Lw.nil ?_)))
      cases hm
      exact Cw.ret (ret1 rfl (Res.mk a11 rfl))
     ·replace hm := bf hm hc13
      refine Cw.skip (Cw.seq (Cw.region (Lw.m (vI z8) rfl (Lw.g (vI z8) rfl (Lw.nil ?_)))))
      cases hm
      exact Cw.ret (ret1 rfl (Res.mk a11 rfl))

theorem p10 {W : CW} {K : List Nat} {x0 : Vm.Op} {v0_6_ : Value} {x1 : Int} {r : Int} (h0 : Rd W K [vI x0.Kind, vS x0.Branch, vS x0.Who, vS x0.Path, vS x0.To, vI x0.At, v0_6_] x0) (hm : Vm.laws_szOp x0 x1 = some r) : CallR Tryd.prog 10 [.agg [vI x0.Kind, vS x0.Branch, vS x0.Who, vS x0.Path, vS x0.To, vI x0.At, v0_6_].toArray, vI x1].toArray W.w (Res W [] fun W' v => v = vI r) :=
 (c10 (V := W.view K []) (h0.view _) hm).ad (fk 0) fun _ _ e => e

theorem c50 {V : CW} {x0 : List Str} {v0_ : Value} {r : (List Str)} (h0 : Rd V [0] [v0_] x0) (hm : Vm.laws_toStringS x0 = some r) : CallR Tryd.prog 50 [v0_].toArray V.w (Res V LL fun Wf v => ∃ (u0 : Value), v = u0 ∧ OwS Wf LL [] [u0] r) := by
 unfold Vm.laws_toStringS at hm
 obtain ⟨W0, hW0⟩ : ∃ W, W = V := ⟨V, rfl⟩
 subst hW0
 refine CallR.of Tryd.func50 rfl rfl rfl rfl (Cw.seq (Cw.region (Lw.g (.slice none 0 0) rfl (Lw.nil (Cw.seq (Cw.region (Lw.m v0_ rfl (Lw.ln x0 h0 rfl ?_))))))))
 obtain ⟨q1, e2, hm⟩ := ob hm
 refine Lw.t rfl (T.mk (α := Str) 2 [] (n := (x0.length : Int)) rfl rfl e2) ?_
 rintro v3 _ ⟨W3, rfl, l3, o3⟩
 have a4 := l3.o
 refine Lw.g v3 rfl (Lw.nil (Cw.seq (Cw.seq (Cw.region (Lw.g (vI 0) rfl (Lw.nil (Cw.block ?_)))))))
 obtain ⟨K9, hK9, hm⟩ := jn_e hm
 refine Cw.loop 8 20 [4] (fun m l w => ∃ (y5 : Int) (y6 : List Str) (W8 : CW), W8.w = w ∧ Le [2] W3 W8 ∧ l = [vI y5] ∧ Ow W8 2 [] [v3] y6 ∧ Vm.laws_toStringS_l1 x0 K9 m y5 y6 = some r) (((x0.length : Int) - 0).toNat + 1) ⟨0, q1, W3, rfl, Le.refl _ _, rfl, o3, hm⟩ ?_
 rintro m10 _ _ σ ⟨y5, y6, W8, rfl, l8, rfl, o7, hm⟩
 obtain _ | m10 := m10
 ·cases hm
 unfold Vm.laws_toStringS_l1 at hm
 have a11 := a4.t l8 rfl
 refine Cw.seq (Cw.seq (Cw.region (Lw.m (vI y5) rfl (Lw.m v0_ rfl (Lw.ln x0 (h0.ul a11) rfl (Lw.lt rfl (Lw.nil (Cw.cond (b := decide ((y5 : Int) < ((x0.length : Int) : Int))) rfl (fun hc13 => ?_) (fun hc13 => ?_)))))))))
 ·replace hm := bt hm hc13
  refine Cw.skip (Cw.seq (Cw.block (Cw.region (Lw.m v3 rfl (Lw.m (vI y5) rfl (Lw.m v0_ rfl (Lw.m (vI y5) rfl ?_)))))))
  obtain ⟨u14, e15, hm⟩ := ob hm
  refine Lw.r rfl (R.ix (α := Str) (h0.ul a11) e15 rfl rfl rfl) (Lw.r rfl (R.ld rfl rfl ((h0.ul a11).at_ e15).str) ?_)
  obtain ⟨u16, e17, hm⟩ := ob hm
  refine Lw.r rfl (R.ix (α := Str) o7.rd e17 rfl rfl rfl) ?_
  obtain ⟨q19, e20, hm⟩ := ob hm
  refine Lw.u (T.stS (K' := []) o7 (rdS _) e20 rfl rfl rfl) ?_
  rintro _ _ ⟨W18, rfl, l18, o18⟩
  refine Lw.nil (Cw.region (Lw.m (vI y5) rfl (Lw.add rfl (Lw.g (vI (w64 (y5 + 1))) rfl (Lw.nil (⟨?_, m10, Nat.lt_succ_self m10, ⟨w64 (y5 + 1), q19, W18, rfl, (l8.trans l18), rfl, o18, hm⟩⟩))))))
  iterate 14 (refine Agree.up rfl ?_)
  iterate 1 (refine Agree.up rfl ?_)
  exact Agree.base
 ·replace hm := bf hm hc13
  refine Cw.exit ?_
  rw [hK9] at hm
  refine Cw.seq (Cw.region (Lw.m v3 rfl (Lw.g v3 rfl (Lw.nil ?_))))
  cases hm
  exact Cw.ret (ret1 rfl (Res.mk a11 ⟨v3, rfl, o7.s.sub rfl rfl⟩))

theorem p50 {W : CW} {K : List Nat} {x0 : List Str} {v0_ : Value} {k0 : Nat} {r : (List Str)} (h0 : Rd W K [v0_] x0) (hm : Vm.laws_toStringS x0 = some r) : CallR Tryd.prog 50 [v0_].toArray W.w (Res W [] fun W' v => ∃ (u0 : Value), v = u0 ∧ Ow W' k0 [] [u0] r) :=
 (c50 (V := W.view K []) (h0.view _) hm).ad (fk k0) fun _ _ ⟨u0, e, f0⟩ => ⟨u0, e, f0.back (fk_LL _)⟩

theorem c12 {V : CW} {x0 : Vm.Op} {v0_6_ : Value} {r : Vm.Op} (h0 : Rd V [0] [vI x0.Kind, vS x0.Branch, vS x0.Who, vS x0.Path, vS x0.To, vI x0.At, v0_6_] x0) (hm : Vm.laws_toOp x0 = some r) : CallR Tryd.prog 12 [.agg [vI x0.Kind, vS x0.Branch, vS x0.Who, vS x0.Path, vS x0.To, vI x0.At, v0_6_].toArray].toArray V.w (Res V LL fun Wf v => ∃ (u0_6 : Value), v = .agg [vI r.Kind, vS r.Branch, vS r.Who, vS r.Path, vS r.To, vI r.At, u0_6].toArray ∧ OwS Wf LL [] [u0_6] r.Text) := by
 unfold Vm.laws_toOp at hm
 obtain ⟨w0_0, he0, h0_6⟩ := Op.split h0
 simp only [List.cons.injEq, and_true, true_and] at he0
 obtain rfl := he0
 obtain ⟨W0, hW0⟩ : ∃ W, W = V := ⟨V, rfl⟩
 subst hW0
 refine CallR.of Tryd.func12 rfl rfl rfl rfl (Cw.seq (Cw.region (Lw.t rfl (T.box 2 (v := .agg [vI x0.Kind, vS x0.Branch, vS x0.Who, vS x0.Path, vS x0.To, vI x0.At, v0_6_].toArray) (cs := [vI x0.Kind, vS x0.Branch, vS x0.Who, vS x0.Path, vS x0.To, vI x0.At, v0_6_]) rfl rfl) ?_)))
 rintro _ _ ⟨g1, W1, rfl, rfl, l1, b1⟩
 have a2 := l1.o
 refine Lw.t rfl (T.alloc 3 (cs := [vI 0, vS ([] : Str), vS ([] : Str), vS ([] : Str), vS ([] : Str), vI 0, .slice none 0 0]) rfl) ?_
 rintro _ _ ⟨g3, W3, rfl, rfl, l3, b3⟩
 have a4 := a2.n l3
 refine Lw.nil (Cw.seq (Cw.region (Lw.t rfl (T.alloc 4 (cs := [vI 0, vS ([] : Str), vS ([] : Str), vS ([] : Str), vS ([] : Str), vI 0, .slice none 0 0]) rfl) ?_)))
 rintro _ _ ⟨g6, W6, rfl, rfl, l6, b6⟩
 have a7 := a4.n l6
 have b8 := (b1.up l3 rfl).up l6 rfl
 refine Lw.nil (Cw.seq (Cw.region (Lw.fa rfl (Lw.r rfl (R.ld (v := vI x0.Kind) rfl rfl (b8.cell rfl)) (Lw.fa rfl (Lw.u (T.st (j := 0) (v := vI x0.Kind) b6 rfl rfl rfl rfl rfl) ?_))))))
 rintro _ _ ⟨W10, rfl, l10, b10⟩
 have a11 := a7.t l10 rfl
 refine Lw.nil (Cw.seq (Cw.region (Lw.fa rfl (Lw.r rfl (R.ld (v := vS x0.Branch) rfl rfl ((b8.up l10 rfl).cell rfl)) (Lw.fa rfl (Lw.u (T.st (j := 1) (v := vS x0.Branch) b10 rfl rfl rfl rfl rfl) ?_))))))
 rintro _ _ ⟨W14, rfl, l14, b14⟩
 have a15 := a11.t l14 rfl
 have b16 := (b8.up l10 rfl).up l14 rfl
 refine Lw.nil (Cw.seq (Cw.region (Lw.fa rfl (Lw.r rfl (R.ld (v := vS x0.Who) rfl rfl (b16.cell rfl)) (Lw.fa rfl (Lw.u (T.st (j := 2) (v := vS x0.Who) b14 rfl rfl rfl rfl rfl) ?_))))))
 rintro _ _ ⟨W18, rfl, l18, b18⟩
 have a19 := a15.t l18 rfl
 refine Lw.nil (Cw.seq (Cw.region (Lw.fa rfl (Lw.r rfl (R.ld (v := vS x0.Path) rfl rfl ((b16.up l18 rfl).cell rfl)) (Lw.fa rfl (Lw.u (T.st (j := 3) (v := vS x0.Path) b18 rfl rfl rfl rfl rfl) ?_))))))
 rintro _ _ ⟨W22, rfl, l22, b22⟩
 have a23 := a19.t l22 rfl
 have b24 := (b16.up l18 rfl).up l22 rfl
 refine Lw.nil (Cw.seq (Cw.region (Lw.fa rfl (Lw.r rfl (R.ld (v := vS x0.To) rfl rfl (b24.cell rfl)) (Lw.fa rfl (Lw.u (T.st (j := 4) (v := vS x0.To) b22 rfl rfl rfl rfl rfl) ?_))))))
 rintro _ _ ⟨W26, rfl, l26, b26⟩
 have a27 := a23.t l26 rfl
 refine Lw.nil (Cw.seq (Cw.region (Lw.fa rfl (Lw.r rfl (R.ld (v := vI x0.At) rfl rfl ((b24.up l26 rfl).cell rfl)) (Lw.fa rfl (Lw.u (T.st (j := 5) (v := vI x0.At) b26 rfl rfl rfl rfl rfl) ?_))))))
 rintro _ _ ⟨W30, rfl, l30, b30⟩
 have a31 := a27.t l30 rfl
 refine Lw.nil (Cw.seq (Cw.region (Lw.fa rfl (Lw.r rfl (R.ld (v := v0_6_) rfl rfl (((b24.up l26 rfl).up l30 rfl).cell rfl)) ?_))))
 obtain ⟨z35, e36, hm⟩ := ob hm
 refine Lw.t rfl (T.call rfl (p50 (K := [0]) (k0 := 5) (h0_6.ul a31) e36)) ?_
 rintro v0_37 _ ⟨W37, rfl, l37, ⟨_, rfl, f37_0⟩⟩
 have a38 := a31.n l37
 refine Lw.fa rfl (Lw.u (T.st (j := 6) (v := v0_37) (b30.up l37 rfl) rfl rfl f37_0.oc rfl rfl) ?_)
 rintro _ _ ⟨W42, rfl, l42, b42⟩
 have a43 := a38.t l42 rfl
 refine Lw.nil (Cw.seq (Cw.region (Lw.r rfl (R.lda (cs := [vI x0.Kind, vS x0.Branch, vS x0.Who, vS x0.Path, vS x0.To, vI x0.At, v0_37]) b42.cells rfl rfl) (Lw.u (T.sta (vs := [vI x0.Kind, vS x0.Branch, vS x0.Who, vS x0.Path, vS x0.To, vI x0.At, v0_37]) (((((((((b3.up l6 rfl).up l10 rfl).up l14 rfl).up l18 rfl).up l22 rfl).up l26 rfl).up l30 rfl).up l37 rfl).up l42 rfl) rfl rfl (oc_cons rfl (oc_cons rfl (oc_cons rfl (oc_cons rfl (oc_cons rfl (oc_cons rfl (oc_cons (f37_0.up l42 rfl).oc oc_nil))))))) rfl rfl) ?_))))
 rintro _ _ ⟨W47, rfl, l47, b47⟩
 have a48 := a43.t l47 rfl
 refine Lw.nil ?_
 cases hm
 exact Cw.ret (retA1 rfl b47 (Res.mk a48 ⟨v0_37, rfl, ((f37_0.up l42 rfl).up l47 rfl).s.sub rfl rfl⟩))

theorem p12 {W : CW} {K : List Nat} {x0 : Vm.Op} {v0_6_ : Value} {k0 : Nat} {r : Vm.Op} (h0 : Rd W K [vI x0.Kind, vS x0.Branch, vS x0.Who, vS x0.Path, vS x0.To, vI x0.At, v0_6_] x0) (hm : Vm.laws_toOp x0 = some r) : CallR Tryd.prog 12 [.agg [vI x0.Kind, vS x0.Branch, vS x0.Who, vS x0.Path, vS x0.To, vI x0.At, v0_6_].toArray].toArray W.w (Res W [] fun W' v => ∃ (u0_6 : Value), v = .agg [vI r.Kind, vS r.Branch, vS r.Who, vS r.Path, vS r.To, vI r.At, u0_6].toArray ∧ Ow W' k0 [] [u0_6] r.Text) :=
 (c12 (V := W.view K []) (h0.view _) hm).ad (fk k0) fun _ _ ⟨u0_6, e, f0⟩ => ⟨u0_6, e, f0.back (fk_LL _)⟩

theorem c87 {V : CW} {x0 : Int} {x1 : Int} {x2 : Int} {r : Bool}  (hm : Vm.spec_l1In x0 x1 x2 = some r) : CallR Tryd.prog 87 [vI x0, vI x1, vI x2].toArray V.w (Res V LL fun Wf v => v = vB r) := by
 unfold Vm.spec_l1In at hm
 obtain ⟨W0, hW0⟩ : ∃ W, W = V := ⟨V, rfl⟩
 subst hW0
 refine CallR.of Tryd.func87 rfl rfl rfl rfl (Cw.seq (Cw.region (Lw.g (vB false) rfl (Lw.nil ?_))))
 obtain ⟨K3, hK3, hm⟩ := jn_e hm
 refine Cw.join 7 14 [6] (fun l w => ∃ (y1 : Bool) (W2 : CW), W2.w = w ∧ Le [] W0 W2 ∧ l = [vB y1] ∧ K3 y1 = some r) ?_ ?_
 ·rintro _ _ σ ⟨y1, W2, rfl, l2, rfl, hm⟩
  rw [hK3] at hm
  have a4 := l2.o
  cases hm
  exact Cw.ret (ret1 rfl (Res.mk a4 rfl))
 ·refine Cw.region (Lw.m (vI x0) rfl (Lw.m (vI x1) rfl (Lw.ge rfl (Lw.m (vB (decide ((x1 : Int) ≤ (x0 : Int)))) rfl (bsplit (decide ((x1 : Int) ≤ (x0 : Int))) (fun hc5 => ?_) (fun hc5 => ?_))))))
  ·replace hm := bt hm hc5
   refine Lw.want' hc5 rfl rfl rfl rfl (Lw.m (vI x0) rfl (Lw.want' hc5 rfl rfl rfl rfl (Lw.m (vI x2) rfl (Lw.want' hc5 rfl rfl rfl rfl (Lw.le rfl (Lw.p hc5 (vB (decide ((x0 : Int) ≤ (x2 : Int)))) rfl (Lw.g (vB (decide ((x0 : Int) ≤ (x2 : Int)))) rfl (Lw.nil (⟨?_, ⟨decide ((x0 : Int) ≤ (x2 : Int)), W0, rfl, Le.refl _ _, rfl, hm⟩⟩)))))))))
   iterate 9 (refine Agree.up rfl ?_)
   exact Agree.refl _
  ·replace hm := bf hm hc5
   refine Lw.pass' hc5 rfl rfl rfl rfl rfl rfl rfl (Lw.pass' hc5 rfl rfl rfl rfl rfl rfl rfl (Lw.pass' hc5 rfl rfl rfl rfl rfl rfl rfl (Lw.p hc5 (vB false) rfl (Lw.g (vB false) rfl (Lw.nil (⟨?_, ⟨false, W0, rfl, Le.refl _ _, rfl, hm⟩⟩))))))
   iterate 9 (refine Agree.up rfl ?_)
   exact Agree.refl _

theorem p87 {W : CW} {K : List Nat} {x0 : Int} {x1 : Int} {x2 : Int} {r : Bool}  (hm : Vm.spec_l1In x0 x1 x2 = some r) : CallR Tryd.prog 87 [vI x0, vI x1, vI x2].toArray W.w (Res W [] fun W' v => v = vB r) :=
 (c87 (V := W.view K [])  hm).ad (fk 0) fun _ _ e => e

theorem c102 {V : CW} {x0 : Str} {r : Bool}  (hm : Vm.spec_l4Name x0 = some r) : CallR Tryd.prog 102 [vS x0].toArray V.w (Res V LL fun Wf v => v = vB r) := by
 unfold Vm.spec_l4Name at hm
 obtain ⟨W0, hW0⟩ : ∃ W, W = V := ⟨V, rfl⟩
 subst hW0
 refine CallR.of Tryd.func102 rfl rfl rfl rfl (Cw.seq (Cw.region (Lw.g (vB false) rfl (Lw.nil (Cw.seq (Cw.seq (Cw.region (Lw.g (vI 0) rfl (Lw.nil (Cw.block ?_))))))))))
 obtain ⟨K4, hK4, hm⟩ := jn_e hm
 refine Cw.loop 4 31 [2, 3] (fun m l w => ∃ (y1 : Bool) (y2 : Int) (W3 : CW), W3.w = w ∧ Le [] W0 W3 ∧ l = [vB y1, vI y2] ∧ Vm.spec_l4Name_l1 x0 K4 m y1 y2 = some r) (((x0.length : Int) - 0).toNat + 1) ⟨false, 0, W0, rfl, Le.refl _ _, rfl, hm⟩ ?_
 rintro m5 _ _ σ ⟨y1, y2, W3, rfl, l3, rfl, hm⟩
 obtain _ | m5 := m5
 ·cases hm
 unfold Vm.spec_l4Name_l1 at hm
 have a6 := l3.o
 refine Cw.seq (Cw.seq (Cw.region (Lw.m (vI y2) rfl (Lw.m (vS x0) rfl (Lw.r rfl (R.lenS rfl) (Lw.lt rfl (Lw.nil (Cw.cond (b := decide ((y2 : Int) < ((x0.length : Int) : Int))) rfl (fun hc7 => ?_) (fun hc7 => ?_)))))))))
 ·replace hm := bt hm hc7
  refine Cw.skip (Cw.seq (Cw.block ?_))
  obtain ⟨K10, hK10, hm⟩ := jn_e hm
  refine Cw.join 10 31 [31] (fun l w => ∃ (y8 : Bool) (W9 : CW), W9.w = w ∧ Le [] W3 W9 ∧ l = [vB y8] ∧ K10 y8 = some r) ?_ ?_
  ·rintro _ _ σ ⟨y8, W9, rfl, l9, rfl, hm⟩
   rw [hK10] at hm
   have a11 := a6.n l9
   refine Cw.cond (b := y8) rfl (fun hc12 => ?_) (fun hc12 => ?_)
   ·replace hm := bt hm hc12
    refine Cw.seq (Cw.region (Lw.g (vB false) rfl (Lw.nil ?_)))
    cases hm
    exact Cw.ret (ret1 rfl (Res.mk a11 rfl))
   ·replace hm := bf hm hc12
    refine Cw.skip (Cw.region (Lw.m (vI y2) rfl (Lw.add rfl (Lw.g (vI (w64 (y2 + 1))) rfl (Lw.nil (⟨?_, m5, Nat.lt_succ_self m5, ⟨y1, w64 (y2 + 1), W9, rfl, (l3.trans l9), rfl, hm⟩⟩))))))
    iterate 3 (refine Agree.up rfl ?_)
    iterate 1 (refine Agree.up rfl ?_)
    refine Agree.ov0 rfl ?_
    iterate 4 (refine Agree.up rfl ?_)
    iterate 2 (refine Agree.up rfl ?_)
    exact Agree.base
  ·refine Cw.region (Lw.m (vS x0) rfl (Lw.m (vI y2) rfl ?_))
   obtain ⟨u13, e14, hm⟩ := ob hm
   refine Lw.r rfl (R.chm e14 rfl rfl) (Lw.lt rfl (Lw.m (vB (decide (((UInt8.toNat u13 : Int) : Int) < (97 : Int)))) rfl (bsplit (decide (((UInt8.toNat u13 : Int) : Int) < (97 : Int))) (fun hc15 => ?_) (fun hc15 => ?_))))
   ·replace hm := bt hm hc15
    refine Lw.pass' hc15 rfl rfl rfl rfl rfl rfl rfl (Lw.pass' hc15 rfl rfl rfl rfl rfl rfl rfl (Lw.pass' hc15 rfl rfl rfl rfl rfl rfl rfl (Lw.pass' hc15 rfl rfl rfl rfl rfl rfl rfl (Lw.p hc15 (vB true) rfl (Lw.m (vB true) rfl (Lw.want' rfl rfl rfl rfl rfl (Lw.m (vS x0) rfl (Lw.want' rfl rfl rfl rfl rfl (Lw.m (vI y2) rfl (Lw.want' rfl rfl rfl rfl rfl ?_))))))))))
    obtain ⟨u16, e17, hm⟩ := ob hm
    refine Lw.r rfl (R.chm e17 rfl rfl) (Lw.want' rfl rfl rfl rfl rfl (Lw.lt rfl (Lw.want' rfl rfl rfl rfl rfl (Lw.m (vB (decide (((UInt8.toNat u16 : Int) : Int) < (48 : Int)))) rfl (bsplit (decide (((UInt8.toNat u16 : Int) : Int) < (48 : Int))) (fun hc18 => ?_) (fun hc18 => ?_))))))
    ·replace hm := bt hm hc18
     refine Lw.pass' hc18 rfl rfl rfl rfl rfl rfl rfl (Lw.pass' hc18 rfl rfl rfl rfl rfl rfl rfl (Lw.pass' hc18 rfl rfl rfl rfl rfl rfl rfl (Lw.pass' hc18 rfl rfl rfl rfl rfl rfl rfl (Lw.want' rfl rfl rfl rfl rfl (Lw.p hc18 (vB true) rfl (Lw.p rfl (vB true) rfl (Lw.nil (⟨?_, ⟨true, W3, rfl, Le.refl _ _, rfl, hm⟩⟩))))))))
     iterate 22 (refine Agree.up rfl ?_)
     exact Agree.refl _
    ·replace hm := bf hm hc18
     refine Lw.want' hc18 rfl rfl rfl rfl (Lw.m (vS x0) rfl (Lw.want' hc18 rfl rfl rfl rfl (Lw.m (vI y2) rfl (Lw.want' hc18 rfl rfl rfl rfl ?_))))
     obtain ⟨u19, e20, hm⟩ := ob hm
     refine Lw.r rfl (R.chm e20 rfl rfl) (Lw.want' hc18 rfl rfl rfl rfl (Lw.gt rfl (Lw.want' rfl rfl rfl rfl rfl (Lw.p hc18 (vB (decide ((57 : Int) < ((UInt8.toNat u19 : Int) : Int)))) rfl (Lw.p rfl (vB (decide ((57 : Int) < ((UInt8.toNat u19 : Int) : Int)))) rfl (Lw.nil (⟨?_, ⟨decide ((57 : Int) < ((UInt8.toNat u19 : Int) : Int)), W3, rfl, Le.refl _ _, rfl, hm⟩⟩)))))))
     iterate 22 (refine Agree.up rfl ?_)
     exact Agree.refl _
   ·replace hm := bf hm hc15
    refine Lw.want' hc15 rfl rfl rfl rfl (Lw.m (vS x0) rfl (Lw.want' hc15 rfl rfl rfl rfl (Lw.m (vI y2) rfl (Lw.want' hc15 rfl rfl rfl rfl ?_))))
    obtain ⟨u21, e22, hm⟩ := ob hm
    refine Lw.r rfl (R.chm e22 rfl rfl) (Lw.want' hc15 rfl rfl rfl rfl (Lw.gt rfl (Lw.p hc15 (vB (decide ((122 : Int) < ((UInt8.toNat u21 : Int) : Int)))) rfl (Lw.m (vB (decide ((122 : Int) < ((UInt8.toNat u21 : Int) : Int)))) rfl (bsplit (decide ((122 : Int) < ((UInt8.toNat u21 : Int) : Int))) (fun hc23 => ?_) (fun hc23 => ?_))))))
    ·replace hm := bt hm hc23
     refine Lw.want' hc23 rfl rfl rfl rfl (Lw.m (vS x0) rfl (Lw.want' hc23 rfl rfl rfl rfl (Lw.m (vI y2) rfl (Lw.want' hc23 rfl rfl rfl rfl ?_))))
     obtain ⟨u24, e25, hm⟩ := ob hm
     refine Lw.r rfl (R.chm e25 rfl rfl) (Lw.want' hc23 rfl rfl rfl rfl (Lw.lt rfl (Lw.want' hc23 rfl rfl rfl rfl (Lw.m (vB (decide (((UInt8.toNat u24 : Int) : Int) < (48 : Int)))) rfl (bsplit (decide (((UInt8.toNat u24 : Int) : Int) < (48 : Int))) (fun hc26 => ?_) (fun hc26 => ?_))))))
     ·replace hm := bt hm hc26
      refine Lw.pass' hc26 rfl rfl rfl rfl rfl rfl rfl (Lw.pass' hc26 rfl rfl rfl rfl rfl rfl rfl (Lw.pass' hc26 rfl rfl rfl rfl rfl rfl rfl (Lw.pass' hc26 rfl rfl rfl rfl rfl rfl rfl (Lw.want' hc23 rfl rfl rfl rfl (Lw.p hc26 (vB true) rfl (Lw.p hc23 (vB true) rfl (Lw.nil (⟨?_, ⟨true, W3, rfl, Le.refl _ _, rfl, hm⟩⟩))))))))
      iterate 22 (refine Agree.up rfl ?_)
      exact Agree.refl _
     ·replace hm := bf hm hc26
      refine Lw.want' hc26 rfl rfl rfl rfl (Lw.m (vS x0) rfl (Lw.want' hc26 rfl rfl rfl rfl (Lw.m (vI y2) rfl (Lw.want' hc26 rfl rfl rfl rfl ?_))))
      obtain ⟨u27, e28, hm⟩ := ob hm
      refine Lw.r rfl (R.chm e28 rfl rfl) (Lw.want' hc26 rfl rfl rfl rfl (Lw.gt rfl (Lw.want' hc23 rfl rfl rfl rfl (Lw.p hc26 (vB (decide ((57 : Int) < ((UInt8.toNat u27 : Int) : Int)))) rfl (Lw.p hc23 (vB (decide ((57 : Int) < ((UInt8.toNat u27 : Int) : Int)))) rfl (Lw.nil (⟨?_, ⟨decide ((57 : Int) < ((UInt8.toNat u27 : Int) : Int)), W3, rfl, Le.refl _ _, rfl, hm⟩⟩)))))))
      iterate 22 (refine Agree.up rfl ?_)
      exact Agree.refl _
    ·replace hm := bf hm hc23
     refine Lw.pass' hc23 rfl rfl rfl rfl rfl rfl rfl (Lw.pass' hc23 rfl rfl rfl rfl rfl rfl rfl (Lw.pass' hc23 rfl rfl rfl rfl rfl rfl rfl (Lw.pass' hc23 rfl rfl rfl rfl rfl rfl rfl (Lw.pass' hc23 rfl rfl rfl rfl rfl rfl rfl (Lw.passU rfl rfl rfl rfl rfl rfl (Lw.passU rfl rfl rfl rfl rfl rfl (Lw.passU rfl rfl rfl rfl rfl rfl (Lw.passU rfl rfl rfl rfl rfl rfl (Lw.pass' hc23 rfl rfl rfl rfl rfl rfl rfl (Lw.p hc23 (vB false) rfl (Lw.nil (⟨?_, ⟨false, W3, rfl, Le.refl _ _, rfl, hm⟩⟩))))))))))))
     iterate 22 (refine Agree.up rfl ?_)
     exact Agree.refl _
 ·replace hm := bf hm hc7
  refine Cw.exit ?_
  rw [hK4] at hm
  refine Cw.seq (Cw.region (Lw.m (vS x0) rfl (Lw.r rfl (R.lenS rfl) ?_)))
  obtain ⟨z29, e30, hm⟩ := ob hm
  refine Lw.t rfl (T.call rfl (p87 (K := [0])   e30)) ?_
  rintro _ _ ⟨W31, rfl, l31, rfl⟩
  have a32 := a6.n l31
  refine Lw.g (vB z29) rfl (Lw.nil ?_)
  cases hm
  exact Cw.ret (ret1 rfl (Res.mk a32 rfl))

theorem p102 {W : CW} {K : List Nat} {x0 : Str} {r : Bool}  (hm : Vm.spec_l4Name x0 = some r) : CallR Tryd.prog 102 [vS x0].toArray W.w (Res W [] fun W' v => v = vB r) :=
 (c102 (V := W.view K [])  hm).ad (fk 0) fun _ _ e => e

theorem c103 {V : CW} {x0 : Vm.Op} {v0_6_ : Value} {x1 : Bool} {x2 : Bool} {x3 : Bool} {x4 : Bool} {r : Bool} (h0 : Rd V [0] [vI x0.Kind, vS x0.Branch, vS x0.Who, vS x0.Path, vS x0.To, vI x0.At, v0_6_] x0) (hm : Vm.spec_l19Bare x0 x1 x2 x3 x4 = some r) : CallR Tryd.prog 103 [.agg [vI x0.Kind, vS x0.Branch, vS x0.Who, vS x0.Path, vS x0.To, vI x0.At, v0_6_].toArray, vB x1, vB x2, vB x3, vB x4].toArray V.w (Res V LL fun Wf v => v = vB r) := by
 unfold Vm.spec_l19Bare at hm
 obtain ⟨w0_0, he0, h0_6⟩ := Op.split h0
 simp only [List.cons.injEq, and_true, true_and] at he0
 obtain rfl := he0
 obtain ⟨W0, hW0⟩ : ∃ W, W = V := ⟨V, rfl⟩
 subst hW0
 refine CallR.of Tryd.func103 rfl rfl rfl rfl (Cw.seq (Cw.region (Lw.t rfl (T.box 2 (v := .agg [vI x0.Kind, vS x0.Branch, vS x0.Who, vS x0.Path, vS x0.To, vI x0.At, v0_6_].toArray) (cs := [vI x0.Kind, vS x0.Branch, vS x0.Who, vS x0.Path, vS x0.To, vI x0.At, v0_6_]) rfl rfl) ?_)))
 rintro _ _ ⟨g1, W1, rfl, rfl, l1, b1⟩
 have a2 := l1.o
 refine Lw.g (vB false) rfl (Lw.nil ?_)
 obtain ⟨K5, hK5, hm⟩ := jn_e hm
 refine Cw.join 11 41 [10] (fun l w => ∃ (y3 : Bool) (W4 : CW), W4.w = w ∧ Le [] W1 W4 ∧ l = [vB y3] ∧ K5 y3 = some r) ?_ ?_
 ·rintro _ _ σ ⟨y3, W4, rfl, l4, rfl, hm⟩
  rw [hK5] at hm
  have a6 := a2.n l4
  cases hm
  exact Cw.ret (ret1 rfl (Res.mk a6 rfl))
 ·refine Cw.region (Lw.m (vB x1) rfl (Lw.m (vB x1) rfl (bsplit x1 (fun hc8 => ?_) (fun hc8 => ?_))))
  ·replace hm := bt hm hc8
   refine Lw.pass' hc8 rfl rfl rfl rfl rfl rfl rfl (Lw.pass' hc8 rfl rfl rfl rfl rfl rfl rfl (Lw.pass' hc8 rfl rfl rfl rfl rfl rfl rfl (Lw.p hc8 (vB true) rfl (Lw.m (vB true) rfl (Lw.want' rfl rfl rfl rfl rfl (Lw.m (vB x2) rfl (Lw.want' rfl rfl rfl rfl rfl (Lw.m (vB x2) rfl (bsplit x2 (fun hc9 => ?_) (fun hc9 => ?_))))))))))
   ·replace hm := bt hm hc9
    refine Lw.pass' hc9 rfl rfl rfl rfl rfl rfl rfl (Lw.pass' hc9 rfl rfl rfl rfl rfl rfl rfl (Lw.pass' hc9 rfl rfl rfl rfl rfl rfl rfl (Lw.want' rfl rfl rfl rfl rfl (Lw.p hc9 (vB true) rfl (Lw.p rfl (vB true) rfl (Lw.m (vB true) rfl (Lw.want' rfl rfl rfl rfl rfl (Lw.m (vB x3) rfl (Lw.want' rfl rfl rfl rfl rfl (Lw.m (vB x3) rfl (bsplit x3 (fun hc10 => ?_) (fun hc10 => ?_))))))))))))
    ·replace hm := bt hm hc10
     refine Lw.pass' hc10 rfl rfl rfl rfl rfl rfl rfl (Lw.pass' hc10 rfl rfl rfl rfl rfl rfl rfl (Lw.pass' hc10 rfl rfl rfl rfl rfl rfl rfl (Lw.want' rfl rfl rfl rfl rfl (Lw.p hc10 (vB true) rfl (Lw.p rfl (vB true) rfl (Lw.m (vB true) rfl (Lw.want' rfl rfl rfl rfl rfl (Lw.m (vB x4) rfl (Lw.want' rfl rfl rfl rfl rfl (Lw.m (vB x4) rfl (bsplit x4 (fun hc11 => ?_) (fun hc11 => ?_))))))))))))
     ·replace hm := bt hm hc11
      refine Lw.pass' hc11 rfl rfl rfl rfl rfl rfl rfl (Lw.pass' hc11 rfl rfl rfl rfl rfl rfl rfl (Lw.pass' hc11 rfl rfl rfl rfl rfl rfl rfl (Lw.pass' hc11 rfl rfl rfl rfl rfl rfl rfl (Lw.want' rfl rfl rfl rfl rfl (Lw.p hc11 (vB true) rfl (Lw.p rfl (vB true) rfl (Lw.g (vB true) rfl (Lw.nil (⟨?_, ⟨true, W1, rfl, Le.refl _ _, rfl, hm⟩⟩)))))))))
      iterate 32 (refine Agree.up rfl ?_)
      exact Agree.refl _
     ·replace hm := bf hm hc11
      refine Lw.want' hc11 rfl rfl rfl rfl (Lw.fa rfl (Lw.want' hc11 rfl rfl rfl rfl (Lw.r rfl (R.ld (v := v0_6_) rfl rfl (b1.cell rfl)) (Lw.want' hc11 rfl rfl rfl rfl (Lw.ln x0.Text (h0_6.ul a2) rfl (Lw.want' hc11 rfl rfl rfl rfl (Lw.eq rfl (Lw.want' rfl rfl rfl rfl rfl (Lw.p hc11 (vB (((x0.Text.length : Int) : Int) == (0 : Int))) rfl (Lw.p rfl (vB (((x0.Text.length : Int) : Int) == (0 : Int))) rfl (Lw.g (vB (((x0.Text.length : Int) : Int) == (0 : Int))) rfl (Lw.nil (⟨?_, ⟨(((x0.Text.length : Int) : Int) == (0 : Int)), W1, rfl, Le.refl _ _, rfl, hm⟩⟩)))))))))))))
      iterate 32 (refine Agree.up rfl ?_)
      exact Agree.refl _
    ·replace hm := bf hm hc10
     refine Lw.want' hc10 rfl rfl rfl rfl (Lw.fa rfl (Lw.want' hc10 rfl rfl rfl rfl (Lw.r rfl (R.ld (v := vI x0.At) rfl rfl (b1.cell rfl)) (Lw.want' hc10 rfl rfl rfl rfl (Lw.eq rfl (Lw.want' rfl rfl rfl rfl rfl (Lw.p hc10 (vB ((x0.At : Int) == (0 : Int))) rfl (Lw.p rfl (vB ((x0.At : Int) == (0 : Int))) rfl (Lw.m (vB ((x0.At : Int) == (0 : Int))) rfl (bsplit ((x0.At : Int) == (0 : Int)) (fun hc13 => ?_) (fun hc13 => ?_)))))))))))
     ·replace hm := bt hm hc13
      refine Lw.want' hc13 rfl rfl rfl rfl (Lw.m (vB x4) rfl (Lw.want' hc13 rfl rfl rfl rfl (Lw.m (vB x4) rfl (bsplit x4 (fun hc14 => ?_) (fun hc14 => ?_)))))
      ·replace hm := bt hm hc14
       refine Lw.pass' hc14 rfl rfl rfl rfl rfl rfl rfl (Lw.pass' hc14 rfl rfl rfl rfl rfl rfl rfl (Lw.pass' hc14 rfl rfl rfl rfl rfl rfl rfl (Lw.pass' hc14 rfl rfl rfl rfl rfl rfl rfl (Lw.want' hc13 rfl rfl rfl rfl (Lw.p hc14 (vB true) rfl (Lw.p hc13 (vB true) rfl (Lw.g (vB true) rfl (Lw.nil (⟨?_, ⟨true, W1, rfl, Le.refl _ _, rfl, hm⟩⟩)))))))))
       iterate 32 (refine Agree.up rfl ?_)
       exact Agree.refl _
      ·replace hm := bf hm hc14
       refine Lw.want' hc14 rfl rfl rfl rfl (Lw.fa rfl (Lw.want' hc14 rfl rfl rfl rfl (Lw.r rfl (R.ld (v := v0_6_) rfl rfl (b1.cell rfl)) (Lw.want' hc14 rfl rfl rfl rfl (Lw.ln x0.Text (h0_6.ul a2) rfl (Lw.want' hc14 rfl rfl rfl rfl (Lw.eq rfl (Lw.want' hc13 rfl rfl rfl rfl (Lw.p hc14 (vB (((x0.Text.length : Int) : Int) == (0 : Int))) rfl (Lw.p hc13 (vB (((x0.Text.length : Int) : Int) == (0 : Int))) rfl (Lw.g (vB (((x0.Text.length : Int) : Int) == (0 : Int))) rfl (Lw.nil (⟨?_, ⟨(((x0.Text.length : Int) : Int) == (0 : Int)), W1, rfl, Le.refl _ _, rfl, hm⟩⟩)))))))))))))
       iterate 32 (refine Agree.up rfl ?_)
       exact Agree.refl _
     ·replace hm := bf hm hc13
      refine Lw.pass' hc13 rfl rfl rfl rfl rfl rfl rfl (Lw.pass' hc13 rfl rfl rfl rfl rfl rfl rfl (Lw.passU rfl rfl rfl rfl rfl rfl (Lw.passU rfl rfl rfl rfl rfl rfl (Lw.passU rfl rfl rfl rfl rfl rfl (Lw.passU rfl rfl rfl rfl rfl rfl (Lw.pass' hc13 rfl rfl rfl rfl rfl rfl rfl (Lw.p hc13 (vB false) rfl (Lw.g (vB false) rfl (Lw.nil (⟨?_, ⟨false, W1, rfl, Le.refl _ _, rfl, hm⟩⟩))))))))))
      iterate 32 (refine Agree.up rfl ?_)
      exact Agree.refl _
   ·replace hm := bf hm hc9
    refine Lw.want' hc9 rfl rfl rfl rfl (Lw.fa rfl (Lw.want' hc9 rfl rfl rfl rfl (Lw.r rfl (R.ld (v := vS x0.To) rfl rfl (b1.cell rfl)) (Lw.want' hc9 rfl rfl rfl rfl (Lw.seq rfl (Lw.want' rfl rfl rfl rfl rfl (Lw.p hc9 (vB (x0.To == ([] : Str))) rfl (Lw.p rfl (vB (x0.To == ([] : Str))) rfl (Lw.m (vB (x0.To == ([] : Str))) rfl (bsplit (x0.To == ([] : Str)) (fun hc16 => ?_) (fun hc16 => ?_)))))))))))
    ·replace hm := bt hm hc16
     refine Lw.want' hc16 rfl rfl rfl rfl (Lw.m (vB x3) rfl (Lw.want' hc16 rfl rfl rfl rfl (Lw.m (vB x3) rfl (bsplit x3 (fun hc17 => ?_) (fun hc17 => ?_)))))
     ·replace hm := bt hm hc17
      refine Lw.pass' hc17 rfl rfl rfl rfl rfl rfl rfl (Lw.pass' hc17 rfl rfl rfl rfl rfl rfl rfl (Lw.pass' hc17 rfl rfl rfl rfl rfl rfl rfl (Lw.want' hc16 rfl rfl rfl rfl (Lw.p hc17 (vB true) rfl (Lw.p hc16 (vB true) rfl (Lw.m (vB true) rfl (Lw.want' rfl rfl rfl rfl rfl (Lw.m (vB x4) rfl (Lw.want' rfl rfl rfl rfl rfl (Lw.m (vB x4) rfl (bsplit x4 (fun hc18 => ?_) (fun hc18 => ?_))))))))))))
      ·replace hm := bt hm hc18
       refine Lw.pass' hc18 rfl rfl rfl rfl rfl rfl rfl (Lw.pass' hc18 rfl rfl rfl rfl rfl rfl rfl (Lw.pass' hc18 rfl rfl rfl rfl rfl rfl rfl (Lw.pass' hc18 rfl rfl rfl rfl rfl rfl rfl (Lw.want' rfl rfl rfl rfl rfl (Lw.p hc18 (vB true) rfl (Lw.p rfl (vB true) rfl (Lw.g (vB true) rfl (Lw.nil (⟨?_, ⟨true, W1, rfl, Le.refl _ _, rfl, hm⟩⟩)))))))))
       iterate 32 (refine Agree.up rfl ?_)
       exact Agree.refl _
      ·replace hm := bf hm hc18
       refine Lw.want' hc18 rfl rfl rfl rfl (Lw.fa rfl (Lw.want' hc18 rfl rfl rfl rfl (Lw.r rfl (R.ld (v := v0_6_) rfl rfl (b1.cell rfl)) (Lw.want' hc18 rfl rfl rfl rfl (Lw.ln x0.Text (h0_6.ul a2) rfl (Lw.want' hc18 rfl rfl rfl rfl (Lw.eq rfl (Lw.want' rfl rfl rfl rfl rfl (Lw.p hc18 (vB (((x0.Text.length : Int) : Int) == (0 : Int))) rfl (Lw.p rfl (vB (((x0.Text.length : Int) : Int) == (0 : Int))) rfl (Lw.g (vB (((x0.Text.length : Int) : Int) == (0 : Int))) rfl (Lw.nil (⟨?_, ⟨(((x0.Text.length : Int) : Int) == (0 : Int)), W1, rfl, Le.refl _ _, rfl, hm⟩⟩)))))))))))))
       iterate 32 (refine Agree.up rfl ?_)
       exact Agree.refl _
     ·replace hm := bf hm hc17
      refine Lw.want' hc17 rfl rfl rfl rfl (Lw.fa rfl (Lw.want' hc17 rfl rfl rfl rfl (Lw.r rfl (R.ld (v := vI x0.At) rfl rfl (b1.cell rfl)) (Lw.want' hc17 rfl rfl rfl rfl (Lw.eq rfl (Lw.want' hc16 rfl rfl rfl rfl (Lw.p hc17 (vB ((x0.At : Int) == (0 : Int))) rfl (Lw.p hc16 (vB ((x0.At : Int) == (0 : Int))) rfl (Lw.m (vB ((x0.At : Int) == (0 : Int))) rfl (bsplit ((x0.At : Int) == (0 : Int)) (fun hc20 => ?_) (fun hc20 => ?_)))))))))))
      ·replace hm := bt hm hc20
       refine Lw.want' hc20 rfl rfl rfl rfl (Lw.m (vB x4) rfl (Lw.want' hc20 rfl rfl rfl rfl (Lw.m (vB x4) rfl (bsplit x4 (fun hc21 => ?_) (fun hc21 => ?_)))))
       ·replace hm := bt hm hc21
        refine Lw.pass' hc21 rfl rfl rfl rfl rfl rfl rfl (Lw.pass' hc21 rfl rfl rfl rfl rfl rfl rfl (Lw.pass' hc21 rfl rfl rfl rfl rfl rfl rfl (Lw.pass' hc21 rfl rfl rfl rfl rfl rfl rfl (Lw.want' hc20 rfl rfl rfl rfl (Lw.p hc21 (vB true) rfl (Lw.p hc20 (vB true) rfl (Lw.g (vB true) rfl (Lw.nil (⟨?_, ⟨true, W1, rfl, Le.refl _ _, rfl, hm⟩⟩)))))))))
        iterate 32 (refine Agree.up rfl ?_)
        exact Agree.refl _
       ·replace hm := bf hm hc21
        refine Lw.want' hc21 rfl rfl rfl rfl (Lw.fa rfl (Lw.want' hc21 rfl rfl rfl rfl (Lw.r rfl (R.ld (v := v0_6_) rfl rfl (b1.cell rfl)) (Lw.want' hc21 rfl rfl rfl rfl (Lw.ln x0.Text (h0_6.ul a2) rfl (Lw.want' hc21 rfl rfl rfl rfl (Lw.eq rfl (Lw.want' hc20 rfl rfl rfl rfl (Lw.p hc21 (vB (((x0.Text.length : Int) : Int) == (0 : Int))) rfl (Lw.p hc20 (vB (((x0.Text.length : Int) : Int) == (0 : Int))) rfl (Lw.g (vB (((x0.Text.length : Int) : Int) == (0 : Int))) rfl (Lw.nil (⟨?_, ⟨(((x0.Text.length : Int) : Int) == (0 : Int)), W1, rfl, Le.refl _ _, rfl, hm⟩⟩)))))))))))))
        iterate 32 (refine Agree.up rfl ?_)
        exact Agree.refl _
      ·replace hm := bf hm hc20
       refine Lw.pass' hc20 rfl rfl rfl rfl rfl rfl rfl (Lw.pass' hc20 rfl rfl rfl rfl rfl rfl rfl (Lw.passU rfl rfl rfl rfl rfl rfl (Lw.passU rfl rfl rfl rfl rfl rfl (Lw.passU rfl rfl rfl rfl rfl rfl (Lw.passU rfl rfl rfl rfl rfl rfl (Lw.pass' hc20 rfl rfl rfl rfl rfl rfl rfl (Lw.p hc20 (vB false) rfl (Lw.g (vB false) rfl (Lw.nil (⟨?_, ⟨false, W1, rfl, Le.refl _ _, rfl, hm⟩⟩))))))))))
       iterate 32 (refine Agree.up rfl ?_)
       exact Agree.refl _
    ·replace hm := bf hm hc16
     refine Lw.pass' hc16 rfl rfl rfl rfl rfl rfl rfl (Lw.pass' hc16 rfl rfl rfl rfl rfl rfl rfl (Lw.passU rfl rfl rfl rfl rfl rfl (Lw.passU rfl rfl rfl rfl rfl rfl (Lw.passU rfl rfl rfl rfl rfl rfl (Lw.pass' hc16 rfl rfl rfl rfl rfl rfl rfl (Lw.p hc16 (vB false) rfl (Lw.m (vB false) rfl (Lw.pass' rfl rfl rfl rfl rfl rfl rfl rfl (Lw.pass' rfl rfl rfl rfl rfl rfl rfl rfl (Lw.passU rfl rfl rfl rfl rfl rfl (Lw.passU rfl rfl rfl rfl rfl rfl (Lw.passU rfl rfl rfl rfl rfl rfl (Lw.passU rfl rfl rfl rfl rfl rfl (Lw.pass' rfl rfl rfl rfl rfl rfl rfl rfl (Lw.p rfl (vB false) rfl (Lw.g (vB false) rfl (Lw.nil (⟨?_, ⟨false, W1, rfl, Le.refl _ _, rfl, hm⟩⟩))))))))))))))))))
     iterate 32 (refine Agree.up rfl ?_)
     exact Agree.refl _
  ·replace hm := bf hm hc8
   refine Lw.want' hc8 rfl rfl rfl rfl (Lw.fa rfl (Lw.want' hc8 rfl rfl rfl rfl (Lw.r rfl (R.ld (v := vS x0.Path) rfl rfl (b1.cell rfl)) (Lw.want' hc8 rfl rfl rfl rfl (Lw.seq rfl (Lw.p hc8 (vB (x0.Path == ([] : Str))) rfl (Lw.m (vB (x0.Path == ([] : Str))) rfl (bsplit (x0.Path == ([] : Str)) (fun hc23 => ?_) (fun hc23 => ?_)))))))))
   ·replace hm := bt hm hc23
    refine Lw.want' hc23 rfl rfl rfl rfl (Lw.m (vB x2) rfl (Lw.want' hc23 rfl rfl rfl rfl (Lw.m (vB x2) rfl (bsplit x2 (fun hc24 => ?_) (fun hc24 => ?_)))))
    ·replace hm := bt hm hc24
     refine Lw.pass' hc24 rfl rfl rfl rfl rfl rfl rfl (Lw.pass' hc24 rfl rfl rfl rfl rfl rfl rfl (Lw.pass' hc24 rfl rfl rfl rfl rfl rfl rfl (Lw.want' hc23 rfl rfl rfl rfl (Lw.p hc24 (vB true) rfl (Lw.p hc23 (vB true) rfl (Lw.m (vB true) rfl (Lw.want' rfl rfl rfl rfl rfl (Lw.m (vB x3) rfl (Lw.want' rfl rfl rfl rfl rfl (Lw.m (vB x3) rfl (bsplit x3 (fun hc25 => ?_) (fun hc25 => ?_))))))))))))
     ·replace hm := bt hm hc25
      refine Lw.pass' hc25 rfl rfl rfl rfl rfl rfl rfl (Lw.pass' hc25 rfl rfl rfl rfl rfl rfl rfl (Lw.pass' hc25 rfl rfl rfl rfl rfl rfl rfl (Lw.want' rfl rfl rfl rfl rfl (Lw.p hc25 (vB true) rfl (Lw.p rfl (vB true) rfl (Lw.m (vB true) rfl (Lw.want' rfl rfl rfl rfl rfl (Lw.m (vB x4) rfl (Lw.want' rfl rfl rfl rfl rfl (Lw.m (vB x4) rfl (bsplit x4 (fun hc26 => ?_) (fun hc26 => ?_))))))))))))
      ·replace hm := bt hm hc26
       refine Lw.pass' hc26 rfl rfl rfl rfl rfl rfl rfl (Lw.pass' hc26 rfl rfl rfl rfl rfl rfl rfl (Lw.pass' hc26 rfl rfl rfl rfl rfl rfl rfl (Lw.pass' hc26 rfl rfl rfl rfl rfl rfl rfl (Lw.want' rfl rfl rfl rfl rfl (Lw.p hc26 (vB true) rfl (Lw.p rfl (vB true) rfl (Lw.g (vB true) rfl (Lw.nil (⟨?_, ⟨true, W1, rfl, Le.refl _ _, rfl, hm⟩⟩)))))))))
       iterate 32 (refine Agree.up rfl ?_)
       exact Agree.refl _
      ·replace hm := bf hm hc26
       refine Lw.want' hc26 rfl rfl rfl rfl (Lw.fa rfl (Lw.want' hc26 rfl rfl rfl rfl (Lw.r rfl (R.ld (v := v0_6_) rfl rfl (b1.cell rfl)) (Lw.want' hc26 rfl rfl rfl rfl (Lw.ln x0.Text (h0_6.ul a2) rfl (Lw.want' hc26 rfl rfl rfl rfl (Lw.eq rfl (Lw.want' rfl rfl rfl rfl rfl (Lw.p hc26 (vB (((x0.Text.length : Int) : Int) == (0 : Int))) rfl (Lw.p rfl (vB (((x0.Text.length : Int) : Int) == (0 : Int))) rfl (Lw.g (vB (((x0.Text.length : Int) : Int) == (0 : Int))) rfl (Lw.nil (⟨?_, ⟨(((x0.Text.length : Int) : Int) == (0 : Int)), W1, rfl, Le.refl _ _, rfl, hm⟩⟩)))))))))))))
       iterate 32 (refine Agree.up rfl ?_)
       exact Agree.refl _
     ·replace hm := bf hm hc25
      refine Lw.want' hc25 rfl rfl rfl rfl (Lw.fa rfl (Lw.want' hc25 rfl rfl rfl rfl (Lw.r rfl (R.ld (v := vI x0.At) rfl rfl (b1.cell rfl)) (Lw.want' hc25 rfl rfl rfl rfl (Lw.eq rfl (Lw.want' rfl rfl rfl rfl rfl (Lw.p hc25 (vB ((x0.At : Int) == (0 : Int))) rfl (Lw.p rfl (vB ((x0.At : Int) == (0 : Int))) rfl (Lw.m (vB ((x0.At : Int) == (0 : Int))) rfl (bsplit ((x0.At : Int) == (0 : Int)) (fun hc28 => ?_) (fun hc28 => ?_)))))))))))
      ·replace hm := bt hm hc28
       refine Lw.want' hc28 rfl rfl rfl rfl (Lw.m (vB x4) rfl (Lw.want' hc28 rfl rfl rfl rfl (Lw.m (vB x4) rfl (bsplit x4 (fun hc29 => ?_) (fun hc29 => ?_)))))
       ·replace hm := bt hm hc29
        refine Lw.pass' hc29 rfl rfl rfl rfl rfl rfl rfl (Lw.pass' hc29 rfl rfl rfl rfl rfl rfl rfl (Lw.pass' hc29 rfl rfl rfl rfl rfl rfl rfl (Lw.pass' hc29 rfl rfl rfl rfl rfl rfl rfl (Lw.want' hc28 rfl rfl rfl rfl (Lw.p hc29 (vB true) rfl (Lw.p hc28 (vB true) rfl (Lw.g (vB true) rfl (Lw.nil (⟨?_, ⟨true, W1, rfl, Le.refl _ _, rfl, hm⟩⟩)))))))))
        iterate 32 (refine Agree.up rfl ?_)
        exact Agree.refl _
       ·replace hm := bf hm hc29
        refine Lw.want' hc29 rfl rfl rfl rfl (Lw.fa rfl (Lw.want' hc29 rfl rfl rfl rfl (Lw.r rfl (R.ld (v := v0_6_) rfl rfl (b1.cell rfl)) (Lw.want' hc29 rfl rfl rfl rfl (Lw.ln x0.Text (h0_6.ul a2) rfl (Lw.want' hc29 rfl rfl rfl rfl (Lw.eq rfl (Lw.want' hc28 rfl rfl rfl rfl (Lw.p hc29 (vB (((x0.Text.length : Int) : Int) == (0 : Int))) rfl (Lw.p hc28 (vB (((x0.Text.length : Int) : Int) == (0 : Int))) rfl (Lw.g (vB (((x0.Text.length : Int) : Int) == (0 : Int))) rfl (Lw.nil (⟨?_, ⟨(((x0.Text.length : Int) : Int) == (0 : Int)), W1, rfl, Le.refl _ _, rfl, hm⟩⟩)))))))))))))
        iterate 32 (refine Agree.up rfl ?_)
        exact Agree.refl _
      ·replace hm := bf hm hc28
       refine Lw.pass' hc28 rfl rfl rfl rfl rfl rfl rfl (Lw.pass' hc28 rfl rfl rfl rfl rfl rfl rfl (Lw.passU rfl rfl rfl rfl rfl rfl (Lw.passU rfl rfl rfl rfl rfl rfl (Lw.passU rfl rfl rfl rfl rfl rfl (Lw.passU rfl rfl rfl rfl rfl rfl (Lw.pass' hc28 rfl rfl rfl rfl rfl rfl rfl (Lw.p hc28 (vB false) rfl (Lw.g (vB false) rfl (Lw.nil (⟨?_, ⟨false, W1, rfl, Le.refl _ _, rfl, hm⟩⟩))))))))))
       iterate 32 (refine Agree.up rfl ?_)
       exact Agree.refl _
    ·replace hm := bf hm hc24
     refine Lw.want' hc24 rfl rfl rfl rfl (Lw.fa rfl (Lw.want' hc24 rfl rfl rfl rfl (Lw.r rfl (R.ld (v := vS x0.To) rfl rfl (b1.cell rfl)) (Lw.want' hc24 rfl rfl rfl rfl (Lw.seq rfl (Lw.want' hc23 rfl rfl rfl rfl (Lw.p hc24 (vB (x0.To == ([] : Str))) rfl (Lw.p hc23 (vB (x0.To == ([] : Str))) rfl (Lw.m (vB (x0.To == ([] : Str))) rfl (bsplit (x0.To == ([] : Str)) (fun hc31 => ?_) (fun hc31 => ?_)))))))))))
     ·replace hm := bt hm hc31
      refine Lw.want' hc31 rfl rfl rfl rfl (Lw.m (vB x3) rfl (Lw.want' hc31 rfl rfl rfl rfl (Lw.m (vB x3) rfl (bsplit x3 (fun hc32 => ?_) (fun hc32 => ?_)))))
      ·replace hm := bt hm hc32
       refine Lw.pass' hc32 rfl rfl rfl rfl rfl rfl rfl (Lw.pass' hc32 rfl rfl rfl rfl rfl rfl rfl (Lw.pass' hc32 rfl rfl rfl rfl rfl rfl rfl (Lw.want' hc31 rfl rfl rfl rfl (Lw.p hc32 (vB true) rfl (Lw.p hc31 (vB true) rfl (Lw.m (vB true) rfl (Lw.want' rfl rfl rfl rfl rfl (Lw.m (vB x4) rfl (Lw.want' rfl rfl rfl rfl rfl (Lw.m (vB x4) rfl (bsplit x4 (fun hc33 => ?_) (fun hc33 => ?_))))))))))))
       ·replace hm := bt hm hc33
        refine Lw.pass' hc33 rfl rfl rfl rfl rfl rfl rfl (Lw.pass' hc33 rfl rfl rfl rfl rfl rfl rfl (Lw.pass' hc33 rfl rfl rfl rfl rfl rfl rfl (Lw.pass' hc33 rfl rfl rfl rfl rfl rfl rfl (Lw.want' rfl rfl rfl rfl rfl (Lw.p hc33 (vB true) rfl (Lw.p rfl (vB true) rfl (Lw.g (vB true) rfl (Lw.nil (⟨?_, ⟨true, W1, rfl, Le.refl _ _, rfl, hm⟩⟩)))))))))
        iterate 32 (refine Agree.up rfl ?_)
        exact Agree.refl _
       ·replace hm := bf hm hc33
        refine Lw.want' hc33 rfl rfl rfl rfl (Lw.fa rfl (Lw.want' hc33 rfl rfl rfl rfl (Lw.r rfl (R.ld (v := v0_6_) rfl rfl (b1.cell rfl)) (Lw.want' hc33 rfl rfl rfl rfl (Lw.ln x0.Text (h0_6.ul a2) rfl (Lw.want' hc33 rfl rfl rfl rfl (Lw.eq rfl (Lw.want' rfl rfl rfl rfl rfl (Lw.p hc33 (vB (((x0.Text.length : Int) : Int) == (0 : Int))) rfl (Lw.p rfl (vB (((x0.Text.length : Int) : Int) == (0 : Int))) rfl (Lw.g (vB (((x0.Text.length : Int) : Int) == (0 : Int))) rfl (Lw.nil (⟨?_, ⟨(((x0.Text.length : Int) : Int) == (0 : Int)), W1, rfl, Le.refl _ _, rfl, hm⟩⟩)))))))))))))
        iterate 32 (refine Agree.up rfl ?_)
        exact Agree.refl _
      ·replace hm := bf hm hc32
       refine Lw.want' hc32 rfl rfl rfl rfl (Lw.fa rfl (Lw.want' hc32 rfl rfl rfl rfl (Lw.r rfl (R.ld (v := vI x0.At) rfl rfl (b1.cell rfl)) (Lw.want' hc32 rfl rfl rfl rfl (Lw.eq rfl (Lw.want' hc31 rfl rfl rfl rfl (Lw.p hc32 (vB ((x0.At : Int) == (0 : Int))) rfl (Lw.p hc31 (vB ((x0.At : Int) == (0 : Int))) rfl (Lw.m (vB ((x0.At : Int) == (0 : Int))) rfl (bsplit ((x0.At : Int) == (0 : Int)) (fun hc35 => ?_) (fun hc35 => ?_)))))))))))
       ·replace hm := bt hm hc35
        refine Lw.want' hc35 rfl rfl rfl rfl (Lw.m (vB x4) rfl (Lw.want' hc35 rfl rfl rfl rfl (Lw.m (vB x4) rfl (bsplit x4 (fun hc36 => ?_) (fun hc36 => ?_)))))
        ·replace hm := bt hm hc36
         refine Lw.pass' hc36 rfl rfl rfl rfl rfl rfl rfl (Lw.pass' hc36 rfl rfl rfl rfl rfl rfl rfl (Lw.pass' hc36 rfl rfl rfl rfl rfl rfl rfl (Lw.pass' hc36 rfl rfl rfl rfl rfl rfl rfl (Lw.want' hc35 rfl rfl rfl rfl (Lw.p hc36 (vB true) rfl (Lw.p hc35 (vB true) rfl (Lw.g (vB true) rfl (Lw.nil (⟨?_, ⟨true, W1, rfl, Le.refl _ _, rfl, hm⟩⟩)))))))))
         iterate 32 (refine Agree.up rfl ?_)
         exact Agree.refl _
        ·replace hm := bf hm hc36
         refine Lw.want' hc36 rfl rfl rfl rfl (Lw.fa rfl (Lw.want' hc36 rfl rfl rfl rfl (Lw.r rfl (R.ld (v := v0_6_) rfl rfl (b1.cell rfl)) (Lw.want' hc36 rfl rfl rfl rfl (Lw.ln x0.Text (h0_6.ul a2) rfl (Lw.want' hc36 rfl rfl rfl rfl (Lw.eq rfl (Lw.want' hc35 rfl rfl rfl rfl (Lw.p hc36 (vB (((x0.Text.length : Int) : Int) == (0 : Int))) rfl (Lw.p hc35 (vB (((x0.Text.length : Int) : Int) == (0 : Int))) rfl (Lw.g (vB (((x0.Text.length : Int) : Int) == (0 : Int))) rfl (Lw.nil (⟨?_, ⟨(((x0.Text.length : Int) : Int) == (0 : Int)), W1, rfl, Le.refl _ _, rfl, hm⟩⟩)))))))))))))
         iterate 32 (refine Agree.up rfl ?_)
         exact Agree.refl _
       ·replace hm := bf hm hc35
        refine Lw.pass' hc35 rfl rfl rfl rfl rfl rfl rfl (Lw.pass' hc35 rfl rfl rfl rfl rfl rfl rfl (Lw.passU rfl rfl rfl rfl rfl rfl (Lw.passU rfl rfl rfl rfl rfl rfl (Lw.passU rfl rfl rfl rfl rfl rfl (Lw.passU rfl rfl rfl rfl rfl rfl (Lw.pass' hc35 rfl rfl rfl rfl rfl rfl rfl (Lw.p hc35 (vB false) rfl (Lw.g (vB false) rfl (Lw.nil (⟨?_, ⟨false, W1, rfl, Le.refl _ _, rfl, hm⟩⟩))))))))))
        iterate 32 (refine Agree.up rfl ?_)
        exact Agree.refl _
     ·replace hm := bf hm hc31
      refine Lw.pass' hc31 rfl rfl rfl rfl rfl rfl rfl (Lw.pass' hc31 rfl rfl rfl rfl rfl rfl rfl (Lw.passU rfl rfl rfl rfl rfl rfl (Lw.passU rfl rfl rfl rfl rfl rfl (Lw.passU rfl rfl rfl rfl rfl rfl (Lw.pass' hc31 rfl rfl rfl rfl rfl rfl rfl (Lw.p hc31 (vB false) rfl (Lw.m (vB false) rfl (Lw.pass' rfl rfl rfl rfl rfl rfl rfl rfl (Lw.pass' rfl rfl rfl rfl rfl rfl rfl rfl (Lw.passU rfl rfl rfl rfl rfl rfl (Lw.passU rfl rfl rfl rfl rfl rfl (Lw.passU rfl rfl rfl rfl rfl rfl (Lw.passU rfl rfl rfl rfl rfl rfl (Lw.pass' rfl rfl rfl rfl rfl rfl rfl rfl (Lw.p rfl (vB false) rfl (Lw.g (vB false) rfl (Lw.nil (⟨?_, ⟨false, W1, rfl, Le.refl _ _, rfl, hm⟩⟩))))))))))))))))))
      iterate 32 (refine Agree.up rfl ?_)
      exact Agree.refl _
   ·replace hm := bf hm hc23
    refine Lw.pass' hc23 rfl rfl rfl rfl rfl rfl rfl (Lw.pass' hc23 rfl rfl rfl rfl rfl rfl rfl (Lw.passU rfl rfl rfl rfl rfl rfl (Lw.passU rfl rfl rfl rfl rfl rfl (Lw.passU rfl rfl rfl rfl rfl rfl (Lw.pass' hc23 rfl rfl rfl rfl rfl rfl rfl (Lw.p hc23 (vB false) rfl (Lw.m (vB false) rfl (Lw.pass' rfl rfl rfl rfl rfl rfl rfl rfl (Lw.pass' rfl rfl rfl rfl rfl rfl rfl rfl (Lw.passU rfl rfl rfl rfl rfl rfl (Lw.passU rfl rfl rfl rfl rfl rfl (Lw.passU rfl rfl rfl rfl rfl rfl (Lw.pass' rfl rfl rfl rfl rfl rfl rfl rfl (Lw.p rfl (vB false) rfl (Lw.m (vB false) rfl (Lw.pass' rfl rfl rfl rfl rfl rfl rfl rfl (Lw.pass' rfl rfl rfl rfl rfl rfl rfl rfl (Lw.passU rfl rfl rfl rfl rfl rfl (Lw.passU rfl rfl rfl rfl rfl rfl (Lw.passU rfl rfl rfl rfl rfl rfl (Lw.passU rfl rfl rfl rfl rfl rfl (Lw.pass' rfl rfl rfl rfl rfl rfl rfl rfl (Lw.p rfl (vB false) rfl (Lw.g (vB false) rfl (Lw.nil (⟨?_, ⟨false, W1, rfl, Le.refl _ _, rfl, hm⟩⟩))))))))))))))))))))))))))
    iterate 32 (refine Agree.up rfl ?_)
    exact Agree.refl _

theorem p103 {W : CW} {K : List Nat} {x0 : Vm.Op} {v0_6_ : Value} {x1 : Bool} {x2 : Bool} {x3 : Bool} {x4 : Bool} {r : Bool} (h0 : Rd W K [vI x0.Kind, vS x0.Branch, vS x0.Who, vS x0.Path, vS x0.To, vI x0.At, v0_6_] x0) (hm : Vm.spec_l19Bare x0 x1 x2 x3 x4 = some r) : CallR Tryd.prog 103 [.agg [vI x0.Kind, vS x0.Branch, vS x0.Who, vS x0.Path, vS x0.To, vI x0.At, v0_6_].toArray, vB x1, vB x2, vB x3, vB x4].toArray W.w (Res W [] fun W' v => v = vB r) :=
 (c103 (V := W.view K []) (h0.view _) hm).ad (fk 0) fun _ _ e => e

theorem c93 {V : CW} {x0 : Str} {x1 : Byte} {x2 : Int} {r : (List Str)}  (hm : Vm.spec_l1Cut x0 x1 x2 = some r) : CallR Tryd.prog 93 [vS x0, .int .u8 (UInt8.toNat x1 : Int), vI x2].toArray V.w (Res V LL fun Wf v => ∃ (u0 : Value), v = u0 ∧ OwS Wf LL [] [u0] r) := by
 unfold Vm.spec_l1Cut at hm
 obtain ⟨W0, hW0⟩ : ∃ W, W = V := ⟨V, rfl⟩
 subst hW0
 refine CallR.of Tryd.func93 rfl rfl rfl rfl (Cw.seq (Cw.region (Lw.g (.slice none 0 0) rfl (Lw.nil (Cw.seq (Cw.region (Lw.t rfl (T.lit0 (α := Str) 2 []) ?_)))))))
 rintro v1 _ ⟨W1, rfl, l1, o1⟩
 have a2 := l1.o
 refine Lw.g v1 rfl (Lw.nil (Cw.seq (Cw.region (Lw.g (vI 0) rfl (Lw.nil (Cw.seq (Cw.seq (Cw.region (Lw.g (vI 0) rfl (Lw.nil (Cw.block ?_)))))))))))
 obtain ⟨K9, hK9, hm⟩ := jn_e hm
 refine Cw.loop 11 36 [7, 8, 9] (fun m l w => ∃ (y3 : List Str) (y6 : Int) (y7 : Int) (v4 : Value) (W8 : CW), W8.w = w ∧ Le [2] W1 W8 ∧ l = [v4, vI y6, vI y7] ∧ Ow W8 2 [] [v4] y3 ∧ Vm.spec_l1Cut_l1 x0 x1 x2 K9 m y3 y6 y7 = some r) (x0.length + 1) ⟨([] : List Str), 0, 0, v1, W1, rfl, Le.refl _ _, rfl, o1, hm⟩ ?_
 rintro m10 _ _ σ ⟨y3, y6, y7, v4, W8, rfl, l8, rfl, o5, hm⟩
 obtain _ | m10 := m10
 ·cases hm
 unfold Vm.spec_l1Cut_l1 at hm
 have a11 := a2.t l8 rfl
 refine Cw.seq ?_
 obtain ⟨K14, hK14, hm⟩ := jn_e hm
 refine Cw.join 11 20 [20] (fun l w => ∃ (y12 : Bool) (W13 : CW), W13.w = w ∧ Le [] W8 W13 ∧ l = [vB y12] ∧ K14 y12 = some r) ?_ ?_
 ·rintro _ _ σ ⟨y12, W13, rfl, l13, rfl, hm⟩
  rw [hK14] at hm
  have a15 := a11.n l13
  have o16 := o5.up l13 rfl
  refine Cw.cond (b := y12) rfl (fun hc17 => ?_) (fun hc17 => ?_)
  ·replace hm := bt hm hc17
   refine Cw.skip ?_
   obtain ⟨K23, hK23, hm⟩ := jn_e hm
   refine Cw.join 23 36 [7, 8] (fun l w => ∃ (y18 : List Str) (y21 : Int) (v19 : Value) (W22 : CW), W22.w = w ∧ Le [2] W13 W22 ∧ l = [v19, vI y21] ∧ Ow W22 2 [] [v19] y18 ∧ K23 y18 y21 = some r) ?_ ?_
   ·rintro _ _ σ ⟨y18, y21, v19, W22, rfl, l22, rfl, o20, hm⟩
    rw [hK23] at hm
    refine Cw.region (Lw.m (vI y7) rfl (Lw.add rfl (Lw.g (vI (w64 (y7 + 1))) rfl (Lw.nil (⟨?_, m10, Nat.lt_succ_self m10, ⟨y18, y21, w64 (y7 + 1), v19, W22, rfl, (l8.trans ((l13.sub rfl).trans l22)), rfl, o20, hm⟩⟩)))))
    iterate 3 (refine Agree.up rfl ?_)
    iterate 2 (refine Agree.up rfl ?_)
    refine Agree.ov0 rfl ?_
    iterate 1 (refine Agree.up rfl ?_)
    refine Agree.ov0 rfl ?_
    iterate 3 (refine Agree.up rfl ?_)
    exact Agree.base
   ·refine Cw.block (Cw.seq (Cw.region (Lw.m (vS x0) rfl (Lw.m (vI y7) rfl ?_))))
    obtain ⟨u25, e26, hm⟩ := ob hm
    refine Lw.r rfl (R.chm e26 rfl rfl) (Lw.m (.int .u8 (UInt8.toNat x1 : Int)) rfl (Lw.eq rfl (Lw.nil (Cw.cond (b := (((UInt8.toNat u25 : Int) : Int) == ((UInt8.toNat x1 : Int) : Int))) rfl (fun hc27 => ?_) (fun hc27 => ?_)))))
    ·replace hm := bt hm hc27
     refine Cw.seq (Cw.region (Lw.m v4 rfl (Lw.m (vS x0) rfl (Lw.m (vI y6) rfl (Lw.m (vI y7) rfl ?_)))))
     obtain ⟨q28, e29, hm⟩ := ob hm
     refine Lw.r rfl (R.ss e29 rfl (.inr rfl) (.inr rfl)) (Lw.t rfl (T.bs 3 [vS q28] (cs := [vS q28]) rfl rfl (bsv rfl)) ?_)
     rintro _ _ ⟨g30, W30, rfl, rfl, l30, b30⟩
     obtain ⟨q33, e34, hm⟩ := ob hm
     refine Lw.t rfl (T.app1S (α := Str) (K' := []) (o16.up l30 rfl) b30 (rdS _) rfl rfl e34) ?_
     rintro v35 _ ⟨W35, rfl, l35, o35⟩
     refine Lw.g v35 rfl (Lw.nil (Cw.region (Lw.m (vI y7) rfl (Lw.add rfl (Lw.g (vI (w64 (y7 + 1))) rfl (Lw.nil (⟨?_, ⟨q33, w64 (y7 + 1), v35, W35, rfl, ((l30.sub rfl).trans l35), rfl, o35, hm⟩⟩)))))))
     iterate 16 (refine Agree.up rfl ?_)
     exact Agree.refl _
    ·replace hm := bf hm hc27
     refine Cw.skip (⟨?_, ⟨y3, y6, v4, W13, rfl, Le.refl _ _, rfl, o16, hm⟩⟩)
     iterate 5 (refine Agree.up rfl ?_)
     exact Agree.refl _
  ·replace hm := bf hm hc17
   refine Cw.exit ?_
   rw [hK9] at hm
   refine Cw.seq (Cw.region (Lw.m v4 rfl (Lw.m (vS x0) rfl (Lw.m (vI y6) rfl ?_))))
   obtain ⟨q38, e39, hm⟩ := ob hm
   refine Lw.r rfl (R.ss e39 rfl (.inr rfl) (.inl ⟨rfl, rfl⟩)) (Lw.t rfl (T.bs 4 [vS q38] (cs := [vS q38]) rfl rfl (bsv rfl)) ?_)
   rintro _ _ ⟨g40, W40, rfl, rfl, l40, b40⟩
   have a41 := a15.n l40
   obtain ⟨q43, e44, hm⟩ := ob hm
   refine Lw.t rfl (T.app1S (α := Str) (K' := []) (o16.up l40 rfl) b40 (rdS _) rfl rfl e44) ?_
   rintro v45 _ ⟨W45, rfl, l45, o45⟩
   have a46 := a41.t l45 rfl
   refine Lw.g v45 rfl (Lw.nil ?_)
   cases hm
   exact Cw.ret (ret1 rfl (Res.mk a46 ⟨v45, rfl, o45.s.sub rfl rfl⟩))
 ·refine Cw.region (Lw.m (vI y7) rfl (Lw.m (vS x0) rfl (Lw.r rfl (R.lenS rfl) (Lw.lt rfl (Lw.m (vB (decide ((y7 : Int) < ((x0.length : Int) : Int)))) rfl (bsplit (decide ((y7 : Int) < ((x0.length : Int) : Int))) (fun hc48 => ?_) (fun hc48 => ?_)))))))
  ·replace hm := bt hm hc48
   refine Lw.want' hc48 rfl rfl rfl rfl (Lw.m v4 rfl (Lw.want' hc48 rfl rfl rfl rfl (Lw.ln y3 o5.rd rfl (Lw.want' hc48 rfl rfl rfl rfl (Lw.m (vI x2) rfl (Lw.want' hc48 rfl rfl rfl rfl (Lw.lt rfl (Lw.p hc48 (vB (decide (((y3.length : Int) : Int) < (x2 : Int)))) rfl (Lw.nil (⟨?_, ⟨decide (((y3.length : Int) : Int) < (x2 : Int)), W8, rfl, Le.refl _ _, rfl, hm⟩⟩))))))))))
   iterate 10 (refine Agree.up rfl ?_)
   exact Agree.refl _
  ·replace hm := bf hm hc48
   refine Lw.pass' hc48 rfl rfl rfl rfl rfl rfl rfl (Lw.pass' hc48 rfl rfl rfl rfl rfl rfl rfl (Lw.pass' hc48 rfl rfl rfl rfl rfl rfl rfl (Lw.pass' hc48 rfl rfl rfl rfl rfl rfl rfl (Lw.p hc48 (vB false) rfl (Lw.nil (⟨?_, ⟨false, W8, rfl, Le.refl _ _, rfl, hm⟩⟩))))))
   iterate 10 (refine Agree.up rfl ?_)
   exact Agree.refl _

theorem p93 {W : CW} {K : List Nat} {x0 : Str} {x1 : Byte} {x2 : Int} {k0 : Nat} {r : (List Str)}  (hm : Vm.spec_l1Cut x0 x1 x2 = some r) : CallR Tryd.prog 93 [vS x0, .int .u8 (UInt8.toNat x1 : Int), vI x2].toArray W.w (Res W [] fun W' v => ∃ (u0 : Value), v = u0 ∧ Ow W' k0 [] [u0] r) :=
 (c93 (V := W.view K [])  hm).ad (fk k0) fun _ _ ⟨u0, e, f0⟩ => ⟨u0, e, f0.back (fk_LL _)⟩

theorem c104 {V : CW} {x0 : Str} {r : Bool}  (hm : Vm.spec_l4Path x0 = some r) : CallR Tryd.prog 104 [vS x0].toArray V.w (Res V LL fun Wf v => v = vB r) := by
 unfold Vm.spec_l4Path at hm
 obtain ⟨W0, hW0⟩ : ∃ W, W = V := ⟨V, rfl⟩
 subst hW0
 refine CallR.of Tryd.func104 rfl rfl rfl rfl (Cw.seq (Cw.region (Lw.g (vB false) rfl (Lw.nil (Cw.seq (Cw.region (Lw.m (vS x0) rfl ?_)))))))
 obtain ⟨z1, e2, hm⟩ := ob hm
 refine Lw.t rfl (T.call rfl (p93 (K := [0]) (k0 := 2) (x1 := (UInt8.ofNatLT 47 (by decide) : Byte))  e2)) ?_
 rintro v0_3 _ ⟨W3, rfl, l3, ⟨_, rfl, f3_0⟩⟩
 have a4 := l3.o
 refine Lw.g v0_3 rfl (Lw.nil (Cw.seq (Cw.seq (Cw.region (Lw.g (vI 0) rfl (Lw.nil (Cw.block ?_)))))))
 obtain ⟨K8, hK8, hm⟩ := jn_e hm
 refine Cw.loop 7 18 [2, 4] (fun m l w => ∃ (y5 : Bool) (y6 : Int) (W7 : CW), W7.w = w ∧ Le [] W3 W7 ∧ l = [vB y5, vI y6] ∧ Vm.spec_l4Path_l1 z1 K8 m y5 y6 = some r) (((z1.length : Int) - 0).toNat + 1) ⟨false, 0, W3, rfl, Le.refl _ _, rfl, hm⟩ ?_
 rintro m9 _ _ σ ⟨y5, y6, W7, rfl, l7, rfl, hm⟩
 obtain _ | m9 := m9
 ·cases hm
 unfold Vm.spec_l4Path_l1 at hm
 have a10 := a4.n l7
 have o11 := f3_0.up l7 rfl
 refine Cw.seq (Cw.seq (Cw.region (Lw.m (vI y6) rfl (Lw.m v0_3 rfl (Lw.ln z1 o11.rd rfl (Lw.lt rfl (Lw.nil (Cw.cond (b := decide ((y6 : Int) < ((z1.length : Int) : Int))) rfl (fun hc12 => ?_) (fun hc12 => ?_)))))))))
 ·replace hm := bt hm hc12
  refine Cw.skip (Cw.seq (Cw.block (Cw.seq (Cw.region (Lw.m v0_3 rfl (Lw.m (vI y6) rfl ?_))))))
  obtain ⟨u13, e14, hm⟩ := ob hm
  refine Lw.r rfl (R.ix (α := Str) o11.rd e14 rfl rfl rfl) (Lw.r rfl (R.ld rfl rfl (o11.rd.at_ e14).str) ?_)
  obtain ⟨z15, e16, hm⟩ := ob hm
  refine Lw.t rfl (T.call rfl (p102 (K := [0])   e16)) ?_
  rintro _ _ ⟨W17, rfl, l17, rfl⟩
  have a18 := a10.n l17
  refine Lw.r rfl (R.not rfl) (Lw.nil (Cw.cond (b := (!z15)) rfl (fun hc20 => ?_) (fun hc20 => ?_)))
  ·replace hm := bt hm hc20
   refine Cw.seq (Cw.region (Lw.g (vB false) rfl (Lw.nil ?_)))
   cases hm
   exact Cw.ret (ret1 rfl (Res.mk a18 rfl))
  ·replace hm := bf hm hc20
   refine Cw.skip (Cw.region (Lw.m (vI y6) rfl (Lw.add rfl (Lw.g (vI (w64 (y6 + 1))) rfl (Lw.nil (⟨?_, m9, Nat.lt_succ_self m9, ⟨y5, w64 (y6 + 1), W17, rfl, (l7.trans l17), rfl, hm⟩⟩))))))
   iterate 13 (refine Agree.up rfl ?_)
   iterate 2 (refine Agree.up rfl ?_)
   exact Agree.base
 ·replace hm := bf hm hc12
  refine Cw.exit ?_
  rw [hK8] at hm
  refine Cw.seq (Cw.region (Lw.m v0_3 rfl (Lw.ln z1 o11.rd rfl (Lw.le rfl (Lw.g (vB (decide (((z1.length : Int) : Int) ≤ (3 : Int)))) rfl (Lw.nil ?_))))))
  cases hm
  exact Cw.ret (ret1 rfl (Res.mk a10 rfl))

theorem p104 {W : CW} {K : List Nat} {x0 : Str} {r : Bool}  (hm : Vm.spec_l4Path x0 = some r) : CallR Tryd.prog 104 [vS x0].toArray W.w (Res W [] fun W' v => v = vB r) :=
 (c104 (V := W.view K [])  hm).ad (fk 0) fun _ _ e => e

end Go.Sx
