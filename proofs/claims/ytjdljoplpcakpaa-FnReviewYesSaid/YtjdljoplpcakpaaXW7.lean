/- Walks: each function answers as its model, printed by a program of ours. Conditions: the arguments read as they are given. -/
import Derived.Test.YtjdljoplpcakpaaXTs
import Derived.Test.YtjdljoplpcakpaaXMd
import Derived.Test.YtjdljoplpcakpaaXW0
import Derived.Test.YtjdljoplpcakpaaXW6
namespace Go.Sx
open Go Go.Proofs Go.Vm Rp
set_option linter.unusedVariables false
set_option linter.unusedSimpArgs false

theorem c68 {V : CW} {x0 : List Vm.Memo} {v0_ : Value} {x1 : List Str} {v1_ : Value} {x2 : List Str} {v2_ : Value} {x3 : List Str} {v3_ : Value} {r : (List Str) × Bool} (h0 : Rd V [0] [v0_] x0) (h1 : Rd V [0] [v1_] x1) (h2 : Rd V [0] [v2_] x2) (h3 : Rd V [0] [v3_] x3) (hm : Vm.spec_l18Find x0 x1 x2 x3 = some r) : CallR Try.prog 68 [v0_, v1_, v2_, v3_].toArray V.w (Res V LL fun Wf v => ∃ (u0 : Value), v = .tuple [u0, vB r.2].toArray ∧ Rd Wf [0] [u0] r.1) := by
 unfold Vm.spec_l18Find at hm
 obtain ⟨W0, hW0⟩ : ∃ W, W = V := ⟨V, rfl⟩
 subst hW0
 refine CallR.of Try.func68 rfl rfl rfl rfl (Cw.seq (Cw.region (Lw.g (.slice none 0 0) rfl (Lw.g (vB false) rfl (Lw.nil (Cw.seq (Cw.seq (Cw.region (Lw.g (vI 0) rfl (Lw.nil (Cw.block ?_)))))))))))
 obtain ⟨K7, hK7, hm⟩ := jn_e hm
 refine Cw.loop 11 29 [8, 9, 10] (fun m l w => ∃ (y1 : List Str) (y4 : Bool) (y5 : Int) (v2 : Value) (W6 : CW), W6.w = w ∧ Le [] W0 W6 ∧ l = [v2, vB y4, vI y5] ∧ Ow W6 2 [] [v2] y1 ∧ Vm.spec_l18Find_l1 x0 x1 x2 x3 K7 m y1 y4 y5 = some r) (((x0.length : Int) - 0).toNat + 1) ⟨([] : List Str), false, 0, .slice none 0 0, W0, rfl, Le.refl _ _, rfl, owN 2 [], hm⟩ ?_
 rintro m8 _ _ σ ⟨y1, y4, y5, v2, W6, rfl, l6, rfl, o3, hm⟩
 obtain _ | m8 := m8
 ·cases hm
 unfold Vm.spec_l18Find_l1 at hm
 have a9 := l6.o
 refine Cw.seq (Cw.seq (Cw.region (Lw.m (vI y5) rfl (Lw.m v0_ rfl (Lw.ln x0 (h0.ul a9) rfl (Lw.lt rfl (Lw.nil (Cw.cond (b := decide ((y5 : Int) < ((x0.length : Int) : Int))) rfl (fun hc11 => ?_) (fun hc11 => ?_)))))))))
 ·replace hm := bt hm hc11
  refine Cw.skip (Cw.seq (Cw.block (Cw.seq (Cw.region (Lw.m v0_ rfl (Lw.m (vI y5) rfl ?_))))))
  obtain ⟨u12, e13, hm⟩ := ob hm
  refine Lw.r rfl (R.ix (α := Memo) (h0.ul a9) e13 rfl rfl rfl) ?_
  obtain ⟨x14, c15, _, r16⟩ := ((h0.ul a9).at_ e13).cells
  obtain ⟨v17, v19, v21, v23, rfl, r18, r20, r22, r24⟩ := Memo.split r16
  refine Lw.r rfl (R.lda c15 rfl rfl) (Lw.m v1_ rfl (Lw.m v2_ rfl (Lw.m v3_ rfl ?_)))
  obtain ⟨z28, e29, hm⟩ := ob hm
  refine Lw.t rfl (T.call rfl (p63 (K := [0])  (Memo.rd (K := [0]) u12.Old u12.One u12.Two u12.Done r18 r20 r22 r24) (h1.ul a9) (h2.ul a9) (h3.ul a9) e29)) ?_
  rintro _ _ ⟨W30, rfl, l30, rfl⟩
  have a31 := a9.n l30
  refine Lw.nil (Cw.cond (b := z28) rfl (fun hc33 => ?_) (fun hc33 => ?_))
  ·replace hm := bt hm hc33
   refine Cw.seq (Cw.region (Lw.m v0_ rfl (Lw.m (vI y5) rfl ?_)))
   obtain ⟨u34, e35, hm⟩ := ob hm
   refine Lw.r rfl (R.ix (α := Memo) (h0.ul a31) e35 rfl rfl rfl) (Lw.fa rfl ?_)
   obtain ⟨v37, c38, r39⟩ := (Memo.at3 ((h0.ul a31).at_ e35)).cell rfl
   refine Lw.r rfl (R.ld rfl rfl c38) (Lw.g v37 rfl (Lw.g (vB true) rfl (Lw.nil ?_)))
   cases hm
   exact Cw.ret (ret2 rfl rfl (Res.mk a31 ⟨v37, rfl, r39⟩))
  ·replace hm := bf hm hc33
   refine Cw.skip (Cw.region (Lw.m (vI y5) rfl (Lw.add rfl (Lw.g (vI (w64 (y5 + 1))) rfl (Lw.nil (⟨?_, m8, Nat.lt_succ_self m8, ⟨y1, y4, w64 (y5 + 1), v2, W30, rfl, (l6.trans l30), rfl, (o3.up l30 rfl), hm⟩⟩))))))
   iterate 15 (refine Agree.up rfl ?_)
   iterate 3 (refine Agree.up rfl ?_)
   exact Agree.base
 ·replace hm := bf hm hc11
  refine Cw.exit ?_
  rw [hK7] at hm
  refine Cw.seq (Cw.region (Lw.g (.slice none 0 0) rfl (Lw.g (vB false) rfl (Lw.nil ?_))))
  cases hm
  exact Cw.ret (ret2 rfl rfl (Res.mk a9 ⟨.slice none 0 0, rfl, (rdN (K := [0]))⟩))

theorem p68 {W : CW} {K : List Nat} {x0 : List Vm.Memo} {v0_ : Value} {x1 : List Str} {v1_ : Value} {x2 : List Str} {v2_ : Value} {x3 : List Str} {v3_ : Value} {r : (List Str) × Bool} (h0 : Rd W K [v0_] x0) (h1 : Rd W K [v1_] x1) (h2 : Rd W K [v2_] x2) (h3 : Rd W K [v3_] x3) (hm : Vm.spec_l18Find x0 x1 x2 x3 = some r) : CallR Try.prog 68 [v0_, v1_, v2_, v3_].toArray W.w (Res W [] fun W' v => ∃ (u0 : Value), v = .tuple [u0, vB r.2].toArray ∧ Rd W' (0 :: K) [u0] r.1) :=
 (c68 (V := W.view K []) (h0.view _) (h1.view _) (h2.view _) (h3.view _) hm).ad (fk 0) fun _ _ ⟨u0, e, f0⟩ => ⟨u0, e, f0.back rfl⟩

theorem c28 {V : CW} {x0 : List Vm.Memo} {v0_ : Value} {x1 : List Str} {v1_ : Value} {x2 : List Str} {v2_ : Value} {x3 : List Str} {v3_ : Value} {r : Int} (h0 : Rd V [0] [v0_] x0) (h1 : Rd V [0] [v1_] x1) (h2 : Rd V [0] [v2_] x2) (h3 : Rd V [0] [v3_] x3) (hm : Vm.spec_MemoLeft x0 x1 x2 x3 = some r) : CallR Try.prog 28 [v0_, v1_, v2_, v3_].toArray V.w (Res V LL fun Wf v => v = vI r) := by
 unfold Vm.spec_MemoLeft at hm
 obtain ⟨W0, hW0⟩ : ∃ W, W = V := ⟨V, rfl⟩
 subst hW0
 refine CallR.of Try.func28 rfl rfl rfl rfl (Cw.seq (Cw.region (Lw.g (vI 0) rfl (Lw.nil (Cw.seq (Cw.region (Lw.g (vI 0) rfl (Lw.nil (Cw.seq ?_)))))))))
 obtain ⟨K3, hK3, hm⟩ := jn_e hm
 refine Cw.join 14 31 [31] (fun l w => ∃ (y1 : Bool) (W2 : CW), W2.w = w ∧ Le [] W0 W2 ∧ l = [vB y1] ∧ K3 y1 = some r) ?_ ?_
 ·rintro _ _ σ ⟨y1, W2, rfl, l2, rfl, hm⟩
  rw [hK3] at hm
  have a4 := l2.o
  refine Cw.cond (b := y1) rfl (fun hc5 => ?_) (fun hc5 => ?_)
  ·replace hm := bt hm hc5
   refine Cw.seq (Cw.region (Lw.g (vI (-1)) rfl (Lw.nil ?_)))
   cases hm
   exact Cw.ret (ret1 rfl (Res.mk a4 rfl))
  ·replace hm := bf hm hc5
   refine Cw.skip (Cw.seq (Cw.region (Lw.m v1_ rfl (Lw.m v2_ rfl (Lw.m v3_ rfl ?_)))))
   obtain ⟨z9, e10, hm⟩ := ob hm
   refine Lw.t rfl (T.call rfl (p67 (K := [0]) (k0 := 2) (h1.ul a4) (h2.ul a4) (h3.ul a4) e10)) ?_
   rintro v0_11 _ ⟨W11, rfl, l11, ⟨_, rfl, f11_0⟩⟩
   have a12 := a4.n l11
   refine Lw.g v0_11 rfl (Lw.nil (Cw.seq (Cw.seq (Cw.region (Lw.g (vI 0) rfl (Lw.nil (Cw.block ?_)))))))
   obtain ⟨K18, hK18, hm⟩ := jn_e hm
   refine Cw.loop 36 72 [9, 11, 12, 13] (fun m l w => ∃ (y13 : Int) (y14 : Int) (j15 j16 : Value) (W17 : CW), W17.w = w ∧ Le [] W11 W17 ∧ l = [vI y13, vI y14, j15, j16] ∧ Vm.spec_MemoLeft_l1 x0 z9 K18 m y13 y14 = some r) (((z9.length : Int) - 0).toNat + 1) ⟨0, 0, undef, undef, W11, rfl, Le.refl _ _, rfl, hm⟩ ?_
   rintro m19 _ _ σ ⟨y13, y14, j15, j16, W17, rfl, l17, rfl, hm⟩
   obtain _ | m19 := m19
   ·cases hm
   unfold Vm.spec_MemoLeft_l1 at hm
   have a20 := a12.n l17
   refine Cw.seq (Cw.seq (Cw.region (Lw.m (vI y14) rfl (Lw.m v0_11 rfl (Lw.ln z9 (f11_0.up l17 rfl).rd rfl (Lw.lt rfl (Lw.nil (Cw.cond (b := decide ((y14 : Int) < ((z9.length : Int) : Int))) rfl (fun hc22 => ?_) (fun hc22 => ?_)))))))))
   ·replace hm := bt hm hc22
    refine Cw.skip ?_
    obtain ⟨K27, hK27, hm⟩ := jn_e hm
    refine Cw.join 42 72 [9, 12, 13] (fun l w => ∃ (y23 : Int) (j24 j25 : Value) (W26 : CW), W26.w = w ∧ Le [] W17 W26 ∧ l = [vI y23, j24, j25] ∧ K27 y23 = some r) ?_ ?_
    ·rintro _ _ σ ⟨y23, j24, j25, W26, rfl, l26, rfl, hm⟩
     rw [hK27] at hm
     refine Cw.region (Lw.m (vI y14) rfl (Lw.add rfl (Lw.g (vI (w64 (y14 + 1))) rfl (Lw.nil (⟨?_, m19, Nat.lt_succ_self m19, ⟨y23, w64 (y14 + 1), j24, j25, W26, rfl, (l17.trans l26), rfl, hm⟩⟩)))))
     iterate 3 (refine Agree.up rfl ?_)
     iterate 3 (refine Agree.up rfl ?_)
     refine Agree.ov0 rfl ?_
     iterate 4 (refine Agree.up rfl ?_)
     iterate 4 (refine Agree.up rfl ?_)
     exact Agree.base
    ·refine Cw.block (Cw.seq (Cw.draw [] [(0, 0), (1, 0), (2, 0), (3, 0), (4, 0), (5, 1), (6, 0), (7, 0), (8, 0), (9, 0), (10, 1), (11, 0), (12, 0), (13, 0), (14, 0), (15, 1), (16, 3), (17, 0), (18, 0), (19, 0), (20, 0), (21, 0)] mixed (by kernel_rfl) fun W30 l30 => ?_))
     have a31 := a20.n l30
     have o32 := (f11_0.up l17 rfl).up l30 rfl
     refine Mw.p rfl rfl (fun _ => R.mv (v := v0_) rfl) (Mw.p rfl rfl (fun _ => R.mv (v := v0_11) rfl) (Mw.p rfl rfl (fun _ => R.mv (v := vI y14) rfl) ?_))
     obtain ⟨u33, e34, hm⟩ := ob hm
     refine Mw.p rfl rfl (fun _ => R.ix (α := Part) o32.rd e34 rfl rfl rfl) (Mw.p rfl rfl (fun _ => R.fa rfl) ?_)
     obtain ⟨v35, c36, r37⟩ := (Part.at2 (o32.rd.at_ e34)).cell rfl
     refine Mw.q rfl rfl (fun _ c => R.ld rfl rfl (cl_cell (Part.at2 (o32.rd.at_ e34)).1 rfl c36 c)) (Mw.p rfl rfl (fun _ => R.mv (v := v0_11) rfl) (Mw.p rfl rfl (fun _ => R.mv (v := vI y14) rfl) ?_))
     obtain ⟨u38, e39, hm⟩ := ob hm
     refine Mw.p rfl rfl (fun _ => R.ix (α := Part) o32.rd e39 rfl rfl rfl) (Mw.p rfl rfl (fun _ => R.fa rfl) ?_)
     obtain ⟨v40, c41, r42⟩ := (Part.at3 (o32.rd.at_ e39)).cell rfl
     refine Mw.q rfl rfl (fun _ c => R.ld rfl rfl (cl_cell (Part.at3 (o32.rd.at_ e39)).1 rfl c41 c)) (Mw.p rfl rfl (fun _ => R.mv (v := v0_11) rfl) (Mw.p rfl rfl (fun _ => R.mv (v := vI y14) rfl) ?_))
     obtain ⟨u43, e44, hm⟩ := ob hm
     refine Mw.p rfl rfl (fun _ => R.ix (α := Part) o32.rd e44 rfl rfl rfl) (Mw.p rfl rfl (fun _ => R.fa rfl) ?_)
     obtain ⟨v45, c46, r47⟩ := (Part.at4 (o32.rd.at_ e44)).cell rfl
     refine Mw.q rfl rfl (fun _ c => R.ld rfl rfl (cl_cell (Part.at4 (o32.rd.at_ e44)).1 rfl c46 c)) ?_
     obtain ⟨z49, e50, hm⟩ := ob hm
     refine Mw.l rfl rfl (T.call rfl (p68 (K := [0, 2])  ((h0.ul a31).sub (M := [0, 2]) rfl) (r37.sub (M := [0, 2]) rfl) (r42.sub (M := [0, 2]) rfl) (r47.sub (M := [0, 2]) rfl) e50)) ?_
     rintro _ _ ⟨W51, rfl, l51, ⟨v0_51, rfl, f51_0⟩⟩
     have s52 := f51_0.sub (M := [0, 2]) rfl
     refine Mw.p rfl rfl (fun _ => R.mv (v := .tuple [v0_51, vB z49.2].toArray) rfl) (Mw.p rfl rfl (fun _ => R.ext (vs := [v0_51, vB z49.2]) (v := v0_51) rfl rfl) (Mw.p rfl rfl (fun _ => R.ext (vs := [v0_51, vB z49.2]) (v := vB z49.2) rfl rfl) (Mw.p rfl rfl (fun _ => R.as (v := v0_51) rfl) (Mw.p rfl rfl (fun _ => R.as (v := vB z49.2) rfl) (Mw.nil ?_)))))
     obtain ⟨K57, hK57, hm⟩ := jn_e hm
     refine Cw.join 62 70 [70] (fun l w => ∃ (y55 : Bool) (W56 : CW), W56.w = w ∧ Le [] W51 W56 ∧ l = [vB y55] ∧ K57 y55 = some r) ?_ ?_
     ·rintro _ _ σ ⟨y55, W56, rfl, l56, rfl, hm⟩
      rw [hK57] at hm
      refine Cw.cond (b := y55) rfl (fun hc60 => ?_) (fun hc60 => ?_)
      ·replace hm := bt hm hc60
       refine Cw.region (Lw.m (vI y13) rfl (Lw.add rfl (Lw.g (vI (w64 (y13 + 1))) rfl (Lw.nil (⟨?_, ⟨w64 (y13 + 1), v0_51, vB z49.2, W56, rfl, (l30.trans (l51.trans l56)), rfl, hm⟩⟩)))))
       iterate 3 (refine Agree.up rfl ?_)
       iterate 1 (refine Agree.up rfl ?_)
       refine Agree.ov0 rfl ?_
       iterate 22 (refine Agree.up rfl ?_)
       exact Agree.refl _
      ·replace hm := bf hm hc60
       refine Cw.skip (⟨?_, ⟨y13, v0_51, vB z49.2, W56, rfl, (l30.trans (l51.trans l56)), rfl, hm⟩⟩)
       iterate 1 (refine Agree.up rfl ?_)
       refine Agree.ov0 rfl ?_
       iterate 22 (refine Agree.up rfl ?_)
       exact Agree.refl _
     ·refine Cw.region (Lw.m v0_11 rfl (Lw.m (vI y14) rfl ?_))
      obtain ⟨u61, e62, hm⟩ := ob hm
      refine Lw.r rfl (R.ix (α := Part) (o32.up l51 rfl).rd e62 rfl rfl rfl) (Lw.fa rfl (Lw.r rfl (R.ld rfl rfl (Part.at0 ((o32.up l51 rfl).rd.at_ e62)).bool) (Lw.m (vB u61.Clash) rfl (bsplit u61.Clash (fun hc63 => ?_) (fun hc63 => ?_)))))
      ·replace hm := bt hm hc63
       refine Lw.want' hc63 rfl rfl rfl rfl (Lw.m (vB z49.2) rfl (Lw.want' hc63 rfl rfl rfl rfl (Lw.r rfl (R.not rfl) (Lw.p hc63 (vB (!z49.2)) rfl (Lw.nil (⟨?_, ⟨(!z49.2), W51, rfl, Le.refl _ _, rfl, hm⟩⟩))))))
       iterate 9 (refine Agree.up rfl ?_)
       exact Agree.refl _
      ·replace hm := bf hm hc63
       refine Lw.pass' hc63 rfl rfl rfl rfl rfl rfl rfl (Lw.pass' hc63 rfl rfl rfl rfl rfl rfl rfl (Lw.p hc63 (vB false) rfl (Lw.nil (⟨?_, ⟨false, W51, rfl, Le.refl _ _, rfl, hm⟩⟩))))
       iterate 9 (refine Agree.up rfl ?_)
       exact Agree.refl _
   ·replace hm := bf hm hc22
    refine Cw.exit ?_
    rw [hK18] at hm
    refine Cw.seq (Cw.region (Lw.m (vI y13) rfl (Lw.g (vI y13) rfl (Lw.nil ?_))))
    cases hm
    exact Cw.ret (ret1 rfl (Res.mk a20 rfl))
 ·refine Cw.region (Lw.m v0_ rfl ?_)
  obtain ⟨z64, e65, hm⟩ := ob hm
  refine Lw.t rfl (T.call rfl (p53 (K := [0])  h0 e65)) ?_
  rintro _ _ ⟨W66, rfl, l66, rfl⟩
  have a67 := l66.o
  refine Lw.r rfl (R.not rfl) (Lw.m (vB (!z64)) rfl (bsplit (!z64) (fun hc68 => ?_) (fun hc68 => ?_)))
  ·replace hm := bt hm hc68
   refine Lw.pass' hc68 rfl rfl rfl rfl rfl rfl rfl (Lw.pass' hc68 rfl rfl rfl rfl rfl rfl rfl (Lw.pass' hc68 rfl rfl rfl rfl rfl rfl rfl (Lw.p hc68 (vB true) rfl (Lw.m (vB true) rfl (Lw.pass' rfl rfl rfl rfl rfl rfl rfl rfl (Lw.pass' rfl rfl rfl rfl rfl rfl rfl rfl (Lw.pass' rfl rfl rfl rfl rfl rfl rfl rfl (Lw.p rfl (vB true) rfl (Lw.m (vB true) rfl (Lw.pass' rfl rfl rfl rfl rfl rfl rfl rfl (Lw.pass' rfl rfl rfl rfl rfl rfl rfl rfl (Lw.pass' rfl rfl rfl rfl rfl rfl rfl rfl (Lw.p rfl (vB true) rfl (Lw.nil (⟨?_, ⟨true, W66, rfl, l66, rfl, hm⟩⟩)))))))))))))))
   iterate 18 (refine Agree.up rfl ?_)
   exact Agree.refl _
  ·replace hm := bf hm hc68
   refine Lw.want' hc68 rfl rfl rfl rfl (Lw.m v1_ rfl (Lw.want' hc68 rfl rfl rfl rfl ?_))
   obtain ⟨z70, e71, hm⟩ := ob hm
   refine Lw.t rfl (T.call rfl (p66 (K := [0])  (h1.ul a67) e71)) ?_
   rintro _ _ ⟨W72, rfl, l72, rfl⟩
   have a73 := a67.n l72
   refine Lw.want' hc68 rfl rfl rfl rfl (Lw.r rfl (R.not rfl) (Lw.p hc68 (vB (!z70)) rfl (Lw.m (vB (!z70)) rfl (bsplit (!z70) (fun hc74 => ?_) (fun hc74 => ?_)))))
   ·replace hm := bt hm hc74
    refine Lw.pass' hc74 rfl rfl rfl rfl rfl rfl rfl (Lw.pass' hc74 rfl rfl rfl rfl rfl rfl rfl (Lw.pass' hc74 rfl rfl rfl rfl rfl rfl rfl (Lw.p hc74 (vB true) rfl (Lw.m (vB true) rfl (Lw.pass' rfl rfl rfl rfl rfl rfl rfl rfl (Lw.pass' rfl rfl rfl rfl rfl rfl rfl rfl (Lw.pass' rfl rfl rfl rfl rfl rfl rfl rfl (Lw.p rfl (vB true) rfl (Lw.nil (⟨?_, ⟨true, W72, rfl, (l66.trans l72), rfl, hm⟩⟩))))))))))
    iterate 18 (refine Agree.up rfl ?_)
    exact Agree.refl _
   ·replace hm := bf hm hc74
    refine Lw.want' hc74 rfl rfl rfl rfl (Lw.m v2_ rfl (Lw.want' hc74 rfl rfl rfl rfl ?_))
    obtain ⟨z76, e77, hm⟩ := ob hm
    refine Lw.t rfl (T.call rfl (p66 (K := [0])  (h2.ul a73) e77)) ?_
    rintro _ _ ⟨W78, rfl, l78, rfl⟩
    have a79 := a73.n l78
    refine Lw.want' hc74 rfl rfl rfl rfl (Lw.r rfl (R.not rfl) (Lw.p hc74 (vB (!z76)) rfl (Lw.m (vB (!z76)) rfl (bsplit (!z76) (fun hc80 => ?_) (fun hc80 => ?_)))))
    ·replace hm := bt hm hc80
     refine Lw.pass' hc80 rfl rfl rfl rfl rfl rfl rfl (Lw.pass' hc80 rfl rfl rfl rfl rfl rfl rfl (Lw.pass' hc80 rfl rfl rfl rfl rfl rfl rfl (Lw.p hc80 (vB true) rfl (Lw.nil (⟨?_, ⟨true, W78, rfl, (l66.trans (l72.trans l78)), rfl, hm⟩⟩)))))
     iterate 18 (refine Agree.up rfl ?_)
     exact Agree.refl _
    ·replace hm := bf hm hc80
     refine Lw.want' hc80 rfl rfl rfl rfl (Lw.m v3_ rfl (Lw.want' hc80 rfl rfl rfl rfl ?_))
     obtain ⟨z82, e83, hm⟩ := ob hm
     refine Lw.t rfl (T.call rfl (p66 (K := [0])  (h3.ul a79) e83)) ?_
     rintro _ _ ⟨W84, rfl, l84, rfl⟩
     refine Lw.want' hc80 rfl rfl rfl rfl (Lw.r rfl (R.not rfl) (Lw.p hc80 (vB (!z82)) rfl (Lw.nil (⟨?_, ⟨(!z82), W84, rfl, (l66.trans (l72.trans (l78.trans l84))), rfl, hm⟩⟩))))
     iterate 18 (refine Agree.up rfl ?_)
     exact Agree.refl _

theorem p28 {W : CW} {K : List Nat} {x0 : List Vm.Memo} {v0_ : Value} {x1 : List Str} {v1_ : Value} {x2 : List Str} {v2_ : Value} {x3 : List Str} {v3_ : Value} {r : Int} (h0 : Rd W K [v0_] x0) (h1 : Rd W K [v1_] x1) (h2 : Rd W K [v2_] x2) (h3 : Rd W K [v3_] x3) (hm : Vm.spec_MemoLeft x0 x1 x2 x3 = some r) : CallR Try.prog 28 [v0_, v1_, v2_, v3_].toArray W.w (Res W [] fun W' v => v = vI r) :=
 (c28 (V := W.view K []) (h0.view _) (h1.view _) (h2.view _) (h3.view _) hm).ad (fk 0) fun _ _ e => e

theorem c105 {V : CW} {x0 : List Str} {v0_ : Value} {x1 : List Str} {v1_ : Value} {r : (List (List Int))} (h0 : Rd V [0] [v0_] x0) (h1 : Rd V [0] [v1_] x1) (hm : Vm.impl_lcs x0 x1 = some r) : CallR Try.prog 105 [v0_, v1_].toArray V.w (Res V LL fun Wf v => ∃ (u0 : Value), v = u0 ∧ OwS Wf LL [] [u0] r) := by
 unfold Vm.impl_lcs at hm
 obtain ⟨W0, hW0⟩ : ∃ W, W = V := ⟨V, rfl⟩
 subst hW0
 refine CallR.of Try.func105 rfl rfl rfl rfl (Cw.seq (Cw.region (Lw.g (.slice none 0 0) rfl (Lw.nil (Cw.seq (Cw.region (Lw.m v0_ rfl (Lw.ln x0 h0 rfl (Lw.add rfl ?_)))))))))
 obtain ⟨q1, e2, hm⟩ := ob hm
 refine Lw.t rfl (T.mk (α := List Int) 2 [] (n := w64 ((x0.length : Int) + 1)) rfl rfl e2) ?_
 rintro v3 _ ⟨W3, rfl, l3, o3⟩
 have a4 := l3.o
 refine Lw.g v3 rfl (Lw.nil (Cw.seq (Cw.seq (Cw.region (Lw.m v3 rfl (Lw.ln q1 o3.rd rfl (Lw.m (vI 0) rfl (Lw.nil (Cw.block ?_)))))))))
 obtain ⟨K10, hK10, hm⟩ := jn_e hm
 refine Cw.loop 15 25 [6, 15] (fun m l w => ∃ (y6 : Int) (y7 : List (List Int)) (j5 : Value) (W9 : CW), W9.w = w ∧ Le [2, 3] W3 W9 ∧ l = [j5, vI y6] ∧ Ow W9 2 [] [v3] y7 ∧ Vm.impl_lcs_l1 x1 q1 K10 m y6 y7 = some r) (((q1.length : Int) - 0).toNat + 1) ⟨0, q1, undef, W3, rfl, Le.refl _ _, rfl, o3, hm⟩ ?_
 rintro m11 _ _ σ ⟨y6, y7, j5, W9, rfl, l9, rfl, o8, hm⟩
 obtain _ | m11 := m11
 ·cases hm
 unfold Vm.impl_lcs_l1 at hm
 have a12 := a4.t l9 rfl
 refine Cw.seq (Cw.region (Lw.lt rfl (Lw.nil (Cw.seq (Cw.cond (b := decide ((y6 : Int) < ((q1.length : Int) : Int))) rfl (fun hc13 => ?_) (fun hc13 => ?_))))))
 ·replace hm := bt hm hc13
  refine Cw.skip (Cw.seq (Cw.block (Cw.seq (Cw.region (Lw.m (vI y6) rfl (Lw.g (vI y6) rfl (Lw.nil (Cw.region (Lw.m v3 rfl (Lw.m (vI y6) rfl (Lw.m v1_ rfl (Lw.ln x1 (h1.ul a12) rfl (Lw.add rfl ?_)))))))))))))
  obtain ⟨q15, e16, hm⟩ := ob hm
  refine Lw.t rfl (T.mk (α := Int) 3 [] (n := w64 ((x1.length : Int) + 1)) rfl rfl e16) ?_
  rintro v17 _ ⟨W17, rfl, l17, o17⟩
  obtain ⟨u20, e21, hm⟩ := ob hm
  refine Lw.r rfl (R.ix (α := List Int) (o8.up l17 rfl).rd e21 rfl rfl rfl) ?_
  obtain ⟨q23, e24, hm⟩ := ob hm
  refine Lw.u (T.stO (J := [3]) (o8.up l17 rfl) o17.s e24 rfl rfl (cells_list o17.oc)) ?_
  rintro _ _ ⟨W22, rfl, l22, o22⟩
  refine Lw.nil (Cw.region (Lw.add rfl (Lw.m (vI (w64 (y6 + 1))) rfl (Lw.nil (⟨?_, m11, Nat.lt_succ_self m11, ⟨w64 (y6 + 1), q23, vI y6, W22, rfl, (l9.trans ((l17.sub rfl).trans l22)), rfl, o22, hm⟩⟩)))))
  iterate 12 (refine Agree.up rfl ?_)
  iterate 2 (refine Agree.up rfl ?_)
  exact Agree.base
 ·replace hm := bf hm hc13
  refine Cw.exit ?_
  rw [hK10] at hm
  refine Cw.seq (Cw.seq (Cw.region (Lw.m v0_ rfl (Lw.ln x0 (h0.ul a12) rfl (Lw.sub rfl (Lw.g (vI (w64 ((x0.length : Int) - 1))) rfl (Lw.nil (Cw.block ?_))))))))
  obtain ⟨K32, hK32, hm⟩ := jn_e hm
  refine Cw.loop 29 87 [7, 8] (fun m l w => ∃ (y27 : Int) (y29 : List (List Int)) (j28 : Value) (W31 : CW), W31.w = w ∧ Le [2, 4, 5] W9 W31 ∧ l = [vI y27, j28] ∧ Ow W31 2 [] [v3] y29 ∧ Vm.impl_lcs_l2 x0 x1 K32 m y27 y29 = some r) (((w64 ((x0.length : Int) - 1)) + 1 - 0).toNat + 1) ⟨w64 ((x0.length : Int) - 1), y7, undef, W9, rfl, Le.refl _ _, rfl, o8, hm⟩ ?_
  rintro m33 _ _ σ ⟨y27, y29, j28, W31, rfl, l31, rfl, o30, hm⟩
  obtain _ | m33 := m33
  ·cases hm
  unfold Vm.impl_lcs_l2 at hm
  have a34 := a12.t l31 rfl
  refine Cw.seq (Cw.seq (Cw.region (Lw.m (vI y27) rfl (Lw.ge rfl (Lw.nil (Cw.cond (b := decide ((0 : Int) ≤ (y27 : Int))) rfl (fun hc35 => ?_) (fun hc35 => ?_)))))))
  ·replace hm := bt hm hc35
   refine Cw.skip (Cw.seq (Cw.block (Cw.seq (Cw.region (Lw.m v1_ rfl (Lw.ln x1 (h1.ul a34) rfl (Lw.sub rfl (Lw.g (vI (w64 ((x1.length : Int) - 1))) rfl (Lw.nil (Cw.block ?_))))))))))
   obtain ⟨K41, hK41, hm⟩ := jn_e hm
   refine Cw.loop 36 87 [8] (fun m l w => ∃ (y37 : Int) (y38 : List (List Int)) (W40 : CW), W40.w = w ∧ Le [2, 4, 5] W31 W40 ∧ l = [vI y37] ∧ Ow W40 2 [] [v3] y38 ∧ Vm.impl_lcs_l3 x0 x1 y27 K41 m y37 y38 = some r) (((w64 ((x1.length : Int) - 1)) + 1 - 0).toNat + 1) ⟨w64 ((x1.length : Int) - 1), y29, W31, rfl, Le.refl _ _, rfl, o30, hm⟩ ?_
   rintro m42 _ _ σ ⟨y37, y38, W40, rfl, l40, rfl, o39, hm⟩
   obtain _ | m42 := m42
   ·cases hm
   unfold Vm.impl_lcs_l3 at hm
   have a43 := a34.t l40 rfl
   refine Cw.seq (Cw.seq (Cw.region (Lw.m (vI y37) rfl (Lw.ge rfl (Lw.nil (Cw.cond (b := decide ((0 : Int) ≤ (y37 : Int))) rfl (fun hc44 => ?_) (fun hc44 => ?_)))))))
   ·replace hm := bt hm hc44
    refine Cw.skip ?_
    obtain ⟨K48, hK48, hm⟩ := jn_e hm
    refine Cw.join 40 87 [] (fun l w => ∃ (y45 : List (List Int)) (W47 : CW), W47.w = w ∧ Le [2, 4, 5] W40 W47 ∧ l = [] ∧ Ow W47 2 [] [v3] y45 ∧ K48 y45 = some r) ?_ ?_
    ·rintro _ _ σ ⟨y45, W47, rfl, l47, rfl, o46, hm⟩
     rw [hK48] at hm
     refine Cw.region (Lw.m (vI y37) rfl (Lw.sub rfl (Lw.g (vI (w64 (y37 - 1))) rfl (Lw.nil (⟨?_, m42, Nat.lt_succ_self m42, ⟨w64 (y37 - 1), y45, W47, rfl, (l40.trans l47), rfl, o46, hm⟩⟩)))))
     iterate 3 (refine Agree.up rfl ?_)
     refine Agree.ov0 rfl ?_
     iterate 2 (refine Agree.up rfl ?_)
     iterate 1 (refine Agree.up rfl ?_)
     exact Agree.base
    ·refine Cw.block (Cw.seq (Cw.draw [] [(0, 0), (1, 0), (2, 0), (3, 1), (4, 0), (5, 0), (6, 0), (7, 1), (8, 0)] mixed (by kernel_rfl) fun W50 l50 => ?_))
     have a51 := a43.n l50
     refine Mw.p rfl rfl (fun _ => R.mv (v := v0_) rfl) (Mw.p rfl rfl (fun _ => R.mv (v := vI y27) rfl) ?_)
     obtain ⟨u53, e54, hm⟩ := ob hm
     refine Mw.p rfl rfl (fun _ => R.ix (α := Str) (h0.ul a51) e54 rfl rfl rfl) (Mw.q rfl rfl (fun _ c => R.ld rfl rfl (cl_cell ((h0.ul a51).at_ e54).1 rfl ((h0.ul a51).at_ e54).str c)) (Mw.p rfl rfl (fun _ => R.mv (v := v1_) rfl) (Mw.p rfl rfl (fun _ => R.mv (v := vI y37) rfl) ?_)))
     obtain ⟨u56, e57, hm⟩ := ob hm
     refine Mw.p rfl rfl (fun _ => R.ix (α := Str) (h1.ul a51) e57 rfl rfl rfl) (Mw.q rfl rfl (fun _ c => R.ld rfl rfl (cl_cell ((h1.ul a51).at_ e57).1 rfl ((h1.ul a51).at_ e57).str c)) (Mw.p rfl rfl (fun _ => R.seq rfl rfl) (Mw.nil (Cw.cond (b := (u53 == u56)) rfl (fun hc59 => ?_) (fun hc59 => ?_)))))
     ·replace hm := bt hm hc59
      refine Cw.draw [] [(0, 0), (1, 0), (2, 0), (3, 1), (4, 0), (5, 0), (6, 0), (7, 0), (8, 0), (9, 1), (10, 0), (11, 0), (12, 0), (13, 1), (14, 0), (15, 0), (16, 3)] mixed (by kernel_rfl) fun W60 l60 => ?_
      have o62 := (o39.up l50 rfl).up l60 rfl
      refine Mw.p rfl rfl (fun _ => R.mv (v := v3) rfl) (Mw.p rfl rfl (fun _ => R.mv (v := vI y27) rfl) ?_)
      obtain ⟨u63, e64, hm⟩ := ob hm
      refine Mw.p rfl rfl (fun _ => R.ix (α := List Int) o62.rd e64 rfl rfl rfl) ?_
      obtain ⟨v65, c66, r67⟩ := (o62.rd.at_ e64).cell rfl
      refine Mw.q rfl rfl (fun _ c => R.ld rfl rfl (cl_cell (o62.rd.at_ e64).1 rfl c66 c)) (Mw.p rfl rfl (fun _ => R.mv (v := vI y37) rfl) (Mw.p rfl rfl (fun _ => R.mv (v := v3) rfl) (Mw.p rfl rfl (fun _ => R.mv (v := vI y27) rfl) (Mw.p rfl rfl (fun _ => R.add rfl rfl) ?_))))
      obtain ⟨u68, e69, hm⟩ := ob hm
      refine Mw.p rfl rfl (fun _ => R.ix (α := List Int) o62.rd e69 rfl rfl rfl) ?_
      obtain ⟨v70, c71, r72⟩ := (o62.rd.at_ e69).cell rfl
      refine Mw.q rfl rfl (fun _ c => R.ld rfl rfl (cl_cell (o62.rd.at_ e69).1 rfl c71 c)) (Mw.p rfl rfl (fun _ => R.mv (v := vI y37) rfl) (Mw.p rfl rfl (fun _ => R.add rfl rfl) ?_))
      obtain ⟨u73, e74, hm⟩ := ob hm
      refine Mw.p rfl rfl (fun _ => R.ix (α := Int) r72 e74 rfl rfl rfl) (Mw.q rfl rfl (fun _ c => R.ld rfl rfl (cl_cell (r72.at_ e74).1 rfl (r72.at_ e74).int c)) (Mw.p rfl rfl (fun _ => R.add rfl rfl) ?_))
      obtain ⟨u75, e76, hm⟩ := ob hm
      refine Mw.p rfl rfl (fun _ => R.ix (α := Int) r67 e76 rfl rfl rfl) ?_
      obtain ⟨W77, ew77, l77, o77, gb77⟩ := Ow.lend (α := List Int) (β := List Int) (j := 4) (jf := 0) o62 e64 (by rw [h_add0]; exact c66) rfl
      rw [← ew77]
      obtain ⟨q80, e81, hm⟩ := ob hm
      refine Mw.lu rfl (T.stS (K' := []) o77 (rdI _) e81 rfl rfl rfl) ?_
      rintro _ _ ⟨W79, rfl, l79, o79⟩
      obtain ⟨W84, ew84, l84, q84, eq84, o84⟩ := gb77 _ _ l79 o79
      obtain ⟨q84_, eqm84, hm⟩ := ob hm
      obtain rfl : q84_ = q84 := Option.some.inj (eqm84.symm.trans eq84)
      rw [← ew84]
      refine Mw.nil (⟨?_, ⟨q84_, W84, rfl, ((l50.sub rfl).trans ((l60.sub rfl).trans ((l77.sub rfl).trans ((l79.sub rfl).trans (l84.sub rfl))))), rfl, o84, hm⟩⟩)
      iterate 25 (refine Agree.up rfl ?_)
      exact Agree.refl _
     ·replace hm := bf hm hc59
      refine Cw.draw [] [(0, 0), (1, 0), (2, 0), (3, 1), (4, 0), (5, 0), (6, 0), (7, 0), (8, 0), (9, 1), (10, 0), (11, 0), (12, 1), (13, 0), (14, 0), (15, 0), (16, 1), (17, 0), (18, 0), (19, 0), (20, 1), (21, 0), (22, 0), (23, 3)] mixed (by kernel_rfl) fun W86 l86 => ?_
      have o88 := (o39.up l50 rfl).up l86 rfl
      refine Mw.p rfl rfl (fun _ => R.mv (v := v3) rfl) (Mw.p rfl rfl (fun _ => R.mv (v := vI y27) rfl) ?_)
      obtain ⟨u89, e90, hm⟩ := ob hm
      refine Mw.p rfl rfl (fun _ => R.ix (α := List Int) o88.rd e90 rfl rfl rfl) ?_
      obtain ⟨v91, c92, r93⟩ := (o88.rd.at_ e90).cell rfl
      refine Mw.q rfl rfl (fun _ c => R.ld rfl rfl (cl_cell (o88.rd.at_ e90).1 rfl c92 c)) (Mw.p rfl rfl (fun _ => R.mv (v := vI y37) rfl) (Mw.p rfl rfl (fun _ => R.mv (v := v3) rfl) (Mw.p rfl rfl (fun _ => R.mv (v := vI y27) rfl) (Mw.p rfl rfl (fun _ => R.add rfl rfl) ?_))))
      obtain ⟨u94, e95, hm⟩ := ob hm
      refine Mw.p rfl rfl (fun _ => R.ix (α := List Int) o88.rd e95 rfl rfl rfl) ?_
      obtain ⟨v96, c97, r98⟩ := (o88.rd.at_ e95).cell rfl
      refine Mw.q rfl rfl (fun _ c => R.ld rfl rfl (cl_cell (o88.rd.at_ e95).1 rfl c97 c)) (Mw.p rfl rfl (fun _ => R.mv (v := vI y37) rfl) ?_)
      obtain ⟨u99, e100, hm⟩ := ob hm
      refine Mw.p rfl rfl (fun _ => R.ix (α := Int) r98 e100 rfl rfl rfl) (Mw.q rfl rfl (fun _ c => R.ld rfl rfl (cl_cell (r98.at_ e100).1 rfl (r98.at_ e100).int c)) (Mw.p rfl rfl (fun _ => R.mv (v := v3) rfl) (Mw.p rfl rfl (fun _ => R.mv (v := vI y27) rfl) ?_)))
      obtain ⟨u101, e102, hm⟩ := ob hm
      refine Mw.p rfl rfl (fun _ => R.ix (α := List Int) o88.rd e102 rfl rfl rfl) ?_
      obtain ⟨v103, c104, r105⟩ := (o88.rd.at_ e102).cell rfl
      refine Mw.q rfl rfl (fun _ c => R.ld rfl rfl (cl_cell (o88.rd.at_ e102).1 rfl c104 c)) (Mw.p rfl rfl (fun _ => R.mv (v := vI y37) rfl) (Mw.p rfl rfl (fun _ => R.add rfl rfl) ?_))
      obtain ⟨u106, e107, hm⟩ := ob hm
      refine Mw.p rfl rfl (fun _ => R.ix (α := Int) r105 e107 rfl rfl rfl) (Mw.q rfl rfl (fun _ c => R.ld rfl rfl (cl_cell (r105.at_ e107).1 rfl (r105.at_ e107).int c)) (Mw.p rfl rfl (fun _ => R.max rfl rfl) ?_))
      obtain ⟨u108, e109, hm⟩ := ob hm
      refine Mw.p rfl rfl (fun _ => R.ix (α := Int) r93 e109 rfl rfl rfl) ?_
      obtain ⟨W110, ew110, l110, o110, gb110⟩ := Ow.lend (α := List Int) (β := List Int) (j := 5) (jf := 0) o88 e90 (by rw [h_add0]; exact c92) rfl
      rw [← ew110]
      obtain ⟨q113, e114, hm⟩ := ob hm
      refine Mw.lu rfl (T.stS (K' := []) o110 (rdI _) e114 rfl rfl rfl) ?_
      rintro _ _ ⟨W112, rfl, l112, o112⟩
      obtain ⟨W117, ew117, l117, q117, eq117, o117⟩ := gb110 _ _ l112 o112
      obtain ⟨q117_, eqm117, hm⟩ := ob hm
      obtain rfl : q117_ = q117 := Option.some.inj (eqm117.symm.trans eq117)
      rw [← ew117]
      refine Mw.nil (⟨?_, ⟨q117_, W117, rfl, ((l50.sub rfl).trans ((l86.sub rfl).trans ((l110.sub rfl).trans ((l112.sub rfl).trans (l117.sub rfl))))), rfl, o117, hm⟩⟩)
      iterate 32 (refine Agree.up rfl ?_)
      exact Agree.refl _
   ·replace hm := bf hm hc44
    refine Cw.exit ?_
    rw [hK41] at hm
    refine Cw.region (Lw.m (vI y27) rfl (Lw.sub rfl (Lw.g (vI (w64 (y27 - 1))) rfl (Lw.nil (⟨?_, m33, Nat.lt_succ_self m33, ⟨w64 (y27 - 1), y38, vI y37, W40, rfl, (l31.trans l40), rfl, o39, hm⟩⟩)))))
    iterate 5 (refine Agree.up rfl ?_)
    iterate 1 (refine Agree.up rfl ?_)
    refine Agree.ov0 rfl ?_
    iterate 6 (refine Agree.up rfl ?_)
    iterate 2 (refine Agree.up rfl ?_)
    exact Agree.base
  ·replace hm := bf hm hc35
   refine Cw.exit ?_
   rw [hK32] at hm
   refine Cw.seq (Cw.region (Lw.m v3 rfl (Lw.g v3 rfl (Lw.nil ?_))))
   cases hm
   exact Cw.ret (ret1 rfl (Res.mk a34 ⟨v3, rfl, o30.s.sub rfl rfl⟩))

theorem p105 {W : CW} {K : List Nat} {x0 : List Str} {v0_ : Value} {x1 : List Str} {v1_ : Value} {k0 : Nat} {r : (List (List Int))} (h0 : Rd W K [v0_] x0) (h1 : Rd W K [v1_] x1) (hm : Vm.impl_lcs x0 x1 = some r) : CallR Try.prog 105 [v0_, v1_].toArray W.w (Res W [] fun W' v => ∃ (u0 : Value), v = u0 ∧ Ow W' k0 [] [u0] r) :=
 (c105 (V := W.view K []) (h0.view _) (h1.view _) hm).ad (fk k0) fun _ _ ⟨u0, e, f0⟩ => ⟨u0, e, f0.back (fk_LL _)⟩

theorem c96 {V : CW} {x0 : List Str} {v0_ : Value} {x1 : List Str} {v1_ : Value} {r : (List Int)} (h0 : Rd V [0] [v0_] x0) (h1 : Rd V [0] [v1_] x1) (hm : Vm.impl_match x0 x1 = some r) : CallR Try.prog 96 [v0_, v1_].toArray V.w (Res V LL fun Wf v => ∃ (u0 : Value), v = u0 ∧ OwS Wf LL [] [u0] r) := by
 unfold Vm.impl_match at hm
 obtain ⟨W0, hW0⟩ : ∃ W, W = V := ⟨V, rfl⟩
 subst hW0
 refine CallR.of Try.func96 rfl rfl rfl rfl (Cw.seq (Cw.region (Lw.g (.slice none 0 0) rfl (Lw.nil (Cw.seq (Cw.region (Lw.m v0_ rfl (Lw.m v1_ rfl ?_))))))))
 obtain ⟨z1, e2, hm⟩ := ob hm
 refine Lw.t rfl (T.call rfl (p105 (K := [0]) (k0 := 2) h0 h1 e2)) ?_
 rintro v0_3 _ ⟨W3, rfl, l3, ⟨_, rfl, f3_0⟩⟩
 have a4 := l3.o
 refine Lw.g v0_3 rfl (Lw.nil (Cw.seq (Cw.region (Lw.g (.slice none 0 0) rfl (Lw.nil (Cw.seq (Cw.seq (Cw.region (Lw.g (vI 0) rfl (Lw.g (vI 0) rfl (Lw.nil (Cw.block ?_))))))))))))
 obtain ⟨K11, hK11, hm⟩ := jn_e hm
 refine Cw.loop 12 70 [6, 7, 8] (fun m l w => ∃ (y5 : List Int) (y8 : Int) (y9 : Int) (v6 : Value) (W10 : CW), W10.w = w ∧ Le [3] W3 W10 ∧ l = [v6, vI y8, vI y9] ∧ Ow W10 3 [] [v6] y5 ∧ Vm.impl_match_l1 x0 x1 z1 K11 m y5 y8 y9 = some r) (x0.length + x1.length + 1) ⟨([] : List Int), 0, 0, .slice none 0 0, W3, rfl, Le.refl _ _, rfl, owN 3 [], hm⟩ ?_
 rintro m12 _ _ σ ⟨y5, y8, y9, v6, W10, rfl, l10, rfl, o7, hm⟩
 obtain _ | m12 := m12
 ·cases hm
 unfold Vm.impl_match_l1 at hm
 have a13 := a4.t l10 rfl
 refine Cw.seq (Cw.seq (Cw.region (Lw.m (vI y8) rfl (Lw.m v0_ rfl (Lw.ln x0 (h0.ul a13) rfl (Lw.lt rfl (Lw.nil (Cw.cond (b := decide ((y8 : Int) < ((x0.length : Int) : Int))) rfl (fun hc16 => ?_) (fun hc16 => ?_)))))))))
 ·replace hm := bt hm hc16
  refine Cw.skip (Cw.block (Cw.block ?_))
  obtain ⟨K19, hK19, hm⟩ := jn_e hm
  refine Cw.join 18 33 [18] (fun l w => ∃ (y17 : Bool) (W18 : CW), W18.w = w ∧ Le [] W10 W18 ∧ l = [vB y17] ∧ K19 y17 = some r) ?_ ?_
  ·rintro _ _ σ ⟨y17, W18, rfl, l18, rfl, hm⟩
   rw [hK19] at hm
   have a20 := a13.n l18
   refine Cw.cond (b := y17) rfl (fun hc23 => ?_) (fun hc23 => ?_)
   ·replace hm := bt hm hc23
    refine Cw.seq (Cw.region (Lw.m v6 rfl (Lw.m (vI y9) rfl (Lw.t rfl (T.bs 4 [vI y9] (cs := [vI y9]) rfl rfl (bsv rfl)) ?_))))
    rintro _ _ ⟨g24, W24, rfl, rfl, l24, b24⟩
    obtain ⟨q28, e29, hm⟩ := ob hm
    refine Lw.t rfl (T.app1S (α := Int) (K' := []) ((o7.up l18 rfl).up l24 rfl) b24 (rdI _) rfl rfl e29) ?_
    rintro v30 _ ⟨W30, rfl, l30, o30⟩
    refine Lw.g v30 rfl (Lw.nil (Cw.seq (Cw.region (Lw.m (vI y8) rfl (Lw.add rfl (Lw.g (vI (w64 (y8 + 1))) rfl (Lw.nil (Cw.region (Lw.m (vI y9) rfl (Lw.add rfl (Lw.g (vI (w64 (y9 + 1))) rfl (Lw.nil (⟨?_, m12, Nat.lt_succ_self m12, ⟨q28, w64 (y8 + 1), w64 (y9 + 1), v30, W30, rfl, (l10.trans ((l18.sub rfl).trans ((l24.sub rfl).trans l30))), rfl, o30, hm⟩⟩)))))))))))))
    iterate 11 (refine Agree.up rfl ?_)
    iterate 1 (refine Agree.up rfl ?_)
    refine Agree.ov0 rfl ?_
    iterate 4 (refine Agree.up rfl ?_)
    iterate 3 (refine Agree.up rfl ?_)
    exact Agree.base
   ·replace hm := bf hm hc23
    obtain ⟨K36, hK36, hm⟩ := jn_e hm
    refine Cw.join 42 65 [42] (fun l w => ∃ (y34 : Bool) (W35 : CW), W35.w = w ∧ Le [] W18 W35 ∧ l = [vB y34] ∧ K36 y34 = some r) ?_ ?_
    ·rintro _ _ σ ⟨y34, W35, rfl, l35, rfl, hm⟩
     rw [hK36] at hm
     have o39 := (o7.up l18 rfl).up l35 rfl
     refine Cw.cond (b := y34) rfl (fun hc40 => ?_) (fun hc40 => ?_)
     ·replace hm := bt hm hc40
      refine Cw.seq (Cw.region (Lw.m v6 rfl (Lw.t rfl (T.bs 5 [vI (-1)] (cs := [vI (-1)]) rfl rfl (bsv rfl)) ?_)))
      rintro _ _ ⟨g41, W41, rfl, rfl, l41, b41⟩
      obtain ⟨q45, e46, hm⟩ := ob hm
      refine Lw.t rfl (T.app1S (α := Int) (K' := []) (o39.up l41 rfl) b41 (rdI _) rfl rfl e46) ?_
      rintro v47 _ ⟨W47, rfl, l47, o47⟩
      refine Lw.g v47 rfl (Lw.nil (Cw.region (Lw.m (vI y8) rfl (Lw.add rfl (Lw.g (vI (w64 (y8 + 1))) rfl (Lw.nil (⟨?_, m12, Nat.lt_succ_self m12, ⟨q45, w64 (y8 + 1), y9, v47, W47, rfl, (l10.trans ((l18.sub rfl).trans ((l35.sub rfl).trans ((l41.sub rfl).trans l47)))), rfl, o47, hm⟩⟩)))))))
      iterate 7 (refine Agree.up rfl ?_)
      iterate 1 (refine Agree.up rfl ?_)
      refine Agree.ov0 rfl ?_
      iterate 1 (refine Agree.up rfl ?_)
      refine Agree.ov0 rfl ?_
      iterate 4 (refine Agree.up rfl ?_)
      iterate 3 (refine Agree.up rfl ?_)
      exact Agree.base
     ·replace hm := bf hm hc40
      refine Cw.region (Lw.m (vI y9) rfl (Lw.add rfl (Lw.g (vI (w64 (y9 + 1))) rfl (Lw.nil (⟨?_, m12, Nat.lt_succ_self m12, ⟨y5, y8, w64 (y9 + 1), v6, W35, rfl, (l10.trans ((l18.sub rfl).trans (l35.sub rfl))), rfl, o39, hm⟩⟩)))))
      iterate 3 (refine Agree.up rfl ?_)
      iterate 1 (refine Agree.up rfl ?_)
      refine Agree.ov0 rfl ?_
      iterate 1 (refine Agree.up rfl ?_)
      refine Agree.ov0 rfl ?_
      iterate 4 (refine Agree.up rfl ?_)
      iterate 3 (refine Agree.up rfl ?_)
      exact Agree.base
    ·refine Cw.draw [] [(0, 0), (1, 0), (2, 0), (3, 0), (4, 0), (5, 0), (6, 0), (7, 0), (8, 0), (9, 1), (10, 0), (11, 0), (12, 1), (13, 0), (14, 0), (15, 0), (16, 1), (17, 0), (18, 0), (19, 0), (20, 1), (21, 0), (22, 0), (23, 0)] mixed (by kernel_rfl) fun W51 l51 => ?_
     have a52 := a20.n l51
     have o53 := ((f3_0.up l10 rfl).up l18 rfl).up l51 rfl
     refine Mw.p rfl rfl (fun _ => R.mv (v := vI y9) rfl) (Mw.p rfl rfl (fun _ => R.mv (v := v1_) rfl) (Mw.p rfl rfl (fun _ => lenR (xs := x1) (h1.ul a52) rfl) (Mw.p rfl rfl (fun _ => R.eq rfl rfl) (Mw.p rfl rfl (fun _ => R.mv (v := vB ((y9 : Int) == ((x1.length : Int) : Int))) rfl) (bsplit ((y9 : Int) == ((x1.length : Int) : Int)) (fun hc56 => ?_) (fun hc56 => ?_))))))
     ·replace hm := bt hm hc56
      refine Mw.pass' hc56 rfl rfl rfl rfl rfl rfl (Mw.pass' hc56 rfl rfl rfl rfl rfl rfl (Mw.pass' hc56 rfl rfl rfl rfl rfl rfl (Mw.pass' hc56 rfl rfl rfl rfl rfl rfl (Mw.pass' hc56 rfl rfl rfl rfl rfl rfl (Mw.pass' hc56 rfl rfl rfl rfl rfl rfl (Mw.pass' hc56 rfl rfl rfl rfl rfl rfl (Mw.pass' hc56 rfl rfl rfl rfl rfl rfl (Mw.pass' hc56 rfl rfl rfl rfl rfl rfl (Mw.pass' hc56 rfl rfl rfl rfl rfl rfl (Mw.pass' hc56 rfl rfl rfl rfl rfl rfl (Mw.pass' hc56 rfl rfl rfl rfl rfl rfl (Mw.pass' hc56 rfl rfl rfl rfl rfl rfl (Mw.pass' hc56 rfl rfl rfl rfl rfl rfl (Mw.pass' hc56 rfl rfl rfl rfl rfl rfl (Mw.pass' hc56 rfl rfl rfl rfl rfl rfl (Mw.pass' hc56 rfl rfl rfl rfl rfl rfl (Mw.p rfl rfl (fun _ => R.pk hc56 rfl (v := vB true) rfl) (Mw.p rfl rfl (fun _ => R.as (v := vB true) rfl) (Mw.nil (⟨?_, ⟨true, W51, rfl, l51, rfl, hm⟩⟩))))))))))))))))))))
      iterate 24 (refine Agree.up rfl ?_)
      exact Agree.refl _
     ·replace hm := bf hm hc56
      refine Mw.gp hc56 rfl rfl rfl rfl rfl (fun _ => R.mv (v := v0_3) rfl) (Mw.gp hc56 rfl rfl rfl rfl rfl (fun _ => R.mv (v := vI y8) rfl) (Mw.gp hc56 rfl rfl rfl rfl rfl (fun _ => R.add rfl rfl) ?_))
      obtain ⟨u57, e58, hm⟩ := ob hm
      refine Mw.gp hc56 rfl rfl rfl rfl rfl (fun _ => R.ix (α := List Int) o53.rd e58 rfl rfl rfl) ?_
      obtain ⟨v59, c60, r61⟩ := (o53.rd.at_ e58).cell rfl
      refine Mw.gq hc56 rfl rfl rfl rfl rfl (fun _ c => R.ld rfl rfl (cl_cell (o53.rd.at_ e58).1 rfl c60 c)) (Mw.gp hc56 rfl rfl rfl rfl rfl (fun _ => R.mv (v := vI y9) rfl) ?_)
      obtain ⟨u62, e63, hm⟩ := ob hm
      refine Mw.gp hc56 rfl rfl rfl rfl rfl (fun _ => R.ix (α := Int) r61 e63 rfl rfl rfl) (Mw.gq hc56 rfl rfl rfl rfl rfl (fun _ c => R.ld rfl rfl (cl_cell (r61.at_ e63).1 rfl (r61.at_ e63).int c)) (Mw.gp hc56 rfl rfl rfl rfl rfl (fun _ => R.mv (v := v0_3) rfl) (Mw.gp hc56 rfl rfl rfl rfl rfl (fun _ => R.mv (v := vI y8) rfl) ?_)))
      obtain ⟨u64, e65, hm⟩ := ob hm
      refine Mw.gp hc56 rfl rfl rfl rfl rfl (fun _ => R.ix (α := List Int) o53.rd e65 rfl rfl rfl) ?_
      obtain ⟨v66, c67, r68⟩ := (o53.rd.at_ e65).cell rfl
      refine Mw.gq hc56 rfl rfl rfl rfl rfl (fun _ c => R.ld rfl rfl (cl_cell (o53.rd.at_ e65).1 rfl c67 c)) (Mw.gp hc56 rfl rfl rfl rfl rfl (fun _ => R.mv (v := vI y9) rfl) (Mw.gp hc56 rfl rfl rfl rfl rfl (fun _ => R.add rfl rfl) ?_))
      obtain ⟨u69, e70, hm⟩ := ob hm
      refine Mw.gp hc56 rfl rfl rfl rfl rfl (fun _ => R.ix (α := Int) r68 e70 rfl rfl rfl) (Mw.gq hc56 rfl rfl rfl rfl rfl (fun _ c => R.ld rfl rfl (cl_cell (r68.at_ e70).1 rfl (r68.at_ e70).int c)) (Mw.gp hc56 rfl rfl rfl rfl rfl (fun _ => R.ge rfl rfl) (Mw.p rfl rfl (fun _ => R.pk hc56 rfl (v := vB (decide ((u69 : Int) ≤ (u62 : Int)))) rfl) (Mw.p rfl rfl (fun _ => R.as (v := vB (decide ((u69 : Int) ≤ (u62 : Int)))) rfl) (Mw.nil (⟨?_, ⟨decide ((u69 : Int) ≤ (u62 : Int)), W51, rfl, l51, rfl, hm⟩⟩))))))
      iterate 24 (refine Agree.up rfl ?_)
      exact Agree.refl _
  ·refine Cw.draw [] [(0, 0), (1, 0), (2, 0), (3, 0), (4, 0), (5, 0), (6, 0), (7, 0), (8, 1), (9, 0), (10, 0), (11, 0), (12, 1), (13, 0), (14, 0), (15, 0)] mixed (by kernel_rfl) fun W71 l71 => ?_
   have a72 := a13.n l71
   have s75 := h1.ul a72
   refine Mw.p rfl rfl (fun _ => R.mv (v := vI y9) rfl) (Mw.p rfl rfl (fun _ => R.mv (v := v1_) rfl) (Mw.p rfl rfl (fun _ => lenR (xs := x1) s75 rfl) (Mw.p rfl rfl (fun _ => R.lt rfl rfl) (Mw.p rfl rfl (fun _ => R.mv (v := vB (decide ((y9 : Int) < ((x1.length : Int) : Int)))) rfl) (bsplit (decide ((y9 : Int) < ((x1.length : Int) : Int))) (fun hc76 => ?_) (fun hc76 => ?_))))))
   ·replace hm := bt hm hc76
    refine Mw.gp hc76 rfl rfl rfl rfl rfl (fun _ => R.mv (v := v0_) rfl) (Mw.gp hc76 rfl rfl rfl rfl rfl (fun _ => R.mv (v := vI y8) rfl) ?_)
    obtain ⟨u77, e78, hm⟩ := ob hm
    refine Mw.gp hc76 rfl rfl rfl rfl rfl (fun _ => R.ix (α := Str) (h0.ul a72) e78 rfl rfl rfl) (Mw.gq hc76 rfl rfl rfl rfl rfl (fun _ c => R.ld rfl rfl (cl_cell ((h0.ul a72).at_ e78).1 rfl ((h0.ul a72).at_ e78).str c)) (Mw.gp hc76 rfl rfl rfl rfl rfl (fun _ => R.mv (v := v1_) rfl) (Mw.gp hc76 rfl rfl rfl rfl rfl (fun _ => R.mv (v := vI y9) rfl) ?_)))
    obtain ⟨u80, e81, hm⟩ := ob hm
    refine Mw.gp hc76 rfl rfl rfl rfl rfl (fun _ => R.ix (α := Str) s75 e81 rfl rfl rfl) (Mw.gq hc76 rfl rfl rfl rfl rfl (fun _ c => R.ld rfl rfl (cl_cell (s75.at_ e81).1 rfl (s75.at_ e81).str c)) (Mw.gp hc76 rfl rfl rfl rfl rfl (fun _ => R.seq rfl rfl) (Mw.p rfl rfl (fun _ => R.pk hc76 rfl (v := vB (u77 == u80)) rfl) (Mw.p rfl rfl (fun _ => R.as (v := vB (u77 == u80)) rfl) (Mw.nil (⟨?_, ⟨(u77 == u80), W71, rfl, l71, rfl, hm⟩⟩))))))
    iterate 16 (refine Agree.up rfl ?_)
    exact Agree.refl _
   ·replace hm := bf hm hc76
    refine Mw.pass' hc76 rfl rfl rfl rfl rfl rfl (Mw.pass' hc76 rfl rfl rfl rfl rfl rfl (Mw.pass' hc76 rfl rfl rfl rfl rfl rfl (Mw.pass' hc76 rfl rfl rfl rfl rfl rfl (Mw.pass' hc76 rfl rfl rfl rfl rfl rfl (Mw.pass' hc76 rfl rfl rfl rfl rfl rfl (Mw.pass' hc76 rfl rfl rfl rfl rfl rfl (Mw.pass' hc76 rfl rfl rfl rfl rfl rfl (Mw.pass' hc76 rfl rfl rfl rfl rfl rfl (Mw.p rfl rfl (fun _ => R.pk hc76 rfl (v := vB false) rfl) (Mw.p rfl rfl (fun _ => R.as (v := vB false) rfl) (Mw.nil (⟨?_, ⟨false, W71, rfl, l71, rfl, hm⟩⟩))))))))))))
    iterate 16 (refine Agree.up rfl ?_)
    exact Agree.refl _
 ·replace hm := bf hm hc16
  refine Cw.exit ?_
  rw [hK11] at hm
  refine Cw.seq (Cw.region (Lw.m v6 rfl (Lw.g v6 rfl (Lw.nil ?_))))
  cases hm
  exact Cw.ret (ret1 rfl (Res.mk a13 ⟨v6, rfl, o7.s.sub rfl rfl⟩))

theorem p96 {W : CW} {K : List Nat} {x0 : List Str} {v0_ : Value} {x1 : List Str} {v1_ : Value} {k0 : Nat} {r : (List Int)} (h0 : Rd W K [v0_] x0) (h1 : Rd W K [v1_] x1) (hm : Vm.impl_match x0 x1 = some r) : CallR Try.prog 96 [v0_, v1_].toArray W.w (Res W [] fun W' v => ∃ (u0 : Value), v = u0 ∧ Ow W' k0 [] [u0] r) :=
 (c96 (V := W.view K []) (h0.view _) (h1.view _) hm).ad (fk k0) fun _ _ ⟨u0, e, f0⟩ => ⟨u0, e, f0.back (fk_LL _)⟩

theorem c97 {V : CW} {x0 : List Str} {v0_ : Value} {x1 : List Vm.Part} {g1_ : Nat} {v1_ : Value} {r : (List Vm.Part)} (h0 : Rd V [0] [v0_] x0) (hB1 : Bx V 2 g1_ [v1_]) (h1 : Ow V 3 [] [v1_] x1) (hm : Vm.impl_mergeOf_c1 x0 x1 = some r) : CallR Try.prog 97 [v0_, ptr (bx g1_)].toArray V.w (Res V LL fun Wf v => ∃ (uc1 : Value), v = .tuple #[] ∧ Ow Wf 3 [] [uc1] r ∧ Bx Wf 2 g1_ [uc1]) := by
 unfold Vm.impl_mergeOf_c1 at hm
 obtain ⟨W0, hW0⟩ : ∃ W, W = V := ⟨V, rfl⟩
 subst hW0
 refine CallR.of Try.func97 rfl rfl rfl rfl (Cw.seq (Cw.seq (Cw.region (Lw.m v0_ rfl (Lw.ln x0 h0 rfl (Lw.eq rfl (Lw.nil (Cw.cond (b := (((x0.length : Int) : Int) == (0 : Int))) rfl (fun hc1 => ?_) (fun hc1 => ?_)))))))))
 ·replace hm := bt hm hc1
  cases hm
  refine Cw.ret (ret0 ?_)
  exact Res.mk (Le.refl _ _) ⟨v1_, rfl, h1, hB1⟩
 ·replace hm := bf hm hc1
  refine Cw.skip (Cw.seq (Cw.region (Lw.r rfl (R.ld (v := v1_) rfl rfl (hB1.cell0 rfl)) (Lw.ln x1 h1.rd rfl (Lw.sub rfl (Lw.g (vI (w64 ((x1.length : Int) - 1))) rfl (Lw.nil ?_)))))))
  obtain ⟨K8, hK8, hm⟩ := jn_e hm
  refine Cw.join 10 24 [3] (fun l w => ∃ (y2 : Int) (y3 : List Vm.Part) (v4 : Value) (W7 : CW), W7.w = w ∧ Le [2, 3] W0 W7 ∧ l = [vI y2] ∧ Ow W7 3 [] [v4] y3 ∧ Bx W7 2 g1_ [v4] ∧ K8 y2 y3 = some r) ?_ ?_
  ·rintro _ _ σ ⟨y2, y3, v4, W7, rfl, l7, rfl, o5, b6, hm⟩
   rw [hK8] at hm
   have a9 := l7.s rfl
   refine Cw.draw [3, 4] [(0, 1), (1, 0), (2, 1), (3, 0), (4, 0), (5, 0), (7, 0), (6, 2), (8, 2), (9, 0), (10, 0), (11, 3)] mixed (by kernel_rfl) fun W10 l10 => ?_
   have a11 := a9.n l10
   have o12 := o5.up l10 rfl
   have b13 := b6.up l10 rfl
   refine Mw.q rfl rfl (fun _ c => R.ld (v := v4) rfl rfl (b13.clc0 rfl rfl c)) (Mw.p rfl rfl (fun _ => R.mv (v := vI y2) rfl) (Mw.q rfl rfl (fun _ c => R.ld (v := v4) rfl rfl (b13.clc0 rfl rfl c)) (Mw.p rfl rfl (fun _ => R.mv (v := vI y2) rfl) ?_)))
   obtain ⟨u14, e15, hm⟩ := ob hm
   refine Mw.p rfl rfl (fun _ => R.ix (α := Part) o12.rd e15 rfl rfl rfl) (Mw.p rfl rfl (fun _ => R.fa rfl) (Mw.p rfl rfl (fun _ => R.mv (v := v0_) rfl) ?_))
   obtain ⟨v16, c17, r18⟩ := (Part.at1 (o12.rd.at_ e15)).cell rfl
   refine Mw.t rfl rfl (Run.tr (R.ld rfl rfl c17)) ?_
   rintro _ _ ⟨hu, rfl⟩
   obtain rfl := hu.symm
   refine ⟨⟨_, rfl, (Le.refl _ _)⟩, ?_⟩
   obtain ⟨W19, ew19, l19, o19, oh19⟩ := Ow.take (α := Part) (β := List Str) (j := 4) (jf := 1) o12 e15 c17 rfl
   rw [← ew19]
   have a20 := a11.t l19 rfl
   obtain ⟨q22, e23, hm⟩ := ob hm
   refine Mw.t rfl rfl (T.appP (α := Str) o19 (h0.ul a20) rfl rfl e23) ?_
   rintro v24 _ ⟨W24, rfl, l24, o24⟩
   have a26 := a20.t l24 rfl
   refine ⟨⟨_, rfl, ((l19.sub (M := [3, 4]) rfl).trans (l24.sub (M := [3, 4]) rfl))⟩, ?_⟩
   obtain ⟨u28, e29, hm⟩ := ob hm
   refine Mw.p rfl rfl (fun _ => R.ix (α := Part) o12.rd e29 rfl rfl rfl) (Mw.p rfl rfl (fun _ => R.fa rfl) ?_)
   obtain ⟨q31, e32, hm⟩ := ob hm
   refine Mw.lu rfl (T.stH (α := Part) (β := List Str) (J := [4]) (oh19.up (l24.sub (M := [4]) rfl) rfl) o24.s e32 rfl rfl rfl rfl) ?_
   rintro _ _ ⟨W30, rfl, l30, o30⟩
   have a33 := a26.t l30 rfl
   refine Mw.nil ?_
   cases hm
   show RetP _ _ _ .ret _ _
   refine ret0 ?_
   exact Res.mk a33 ⟨v4, rfl, o30, (((b13.up l19 rfl).up l24 rfl).up l30 rfl)⟩
  ·obtain ⟨K37, hK37, hm⟩ := jn_e hm
   refine Cw.join 10 18 [18] (fun l w => ∃ (y35 : Bool) (W36 : CW), W36.w = w ∧ Le [] W0 W36 ∧ l = [vB y35] ∧ K37 y35 = some r) ?_ ?_
   ·rintro _ _ σ ⟨y35, W36, rfl, l36, rfl, hm⟩
    rw [hK37] at hm
    have b40 := hB1.up l36 rfl
    refine Cw.cond (b := y35) rfl (fun hc41 => ?_) (fun hc41 => ?_)
    ·replace hm := bt hm hc41
     refine Cw.seq (Cw.region (Lw.r rfl (R.ld (v := v1_) rfl rfl (b40.cell0 rfl)) (Lw.r rfl (R.bd (zs := [vB false, .slice none 0 0, .slice none 0 0, .slice none 0 0, .slice none 0 0]) (cs := [vB false, .slice none 0 0, .slice none 0 0, .slice none 0 0, .slice none 0 0]) [] rfl rfl rfl bp_nil) (Lw.t rfl (T.bs 5 [.agg [vB false, .slice none 0 0, .slice none 0 0, .slice none 0 0, .slice none 0 0].toArray] (cs := [vB false, .slice none 0 0, .slice none 0 0, .slice none 0 0, .slice none 0 0]) rfl rfl (bsA rfl)) ?_))))
     rintro _ _ ⟨g42, W42, rfl, rfl, l42, b42⟩
     obtain ⟨q46, e47, hm⟩ := ob hm
     refine Lw.t rfl (T.app1 (α := Part) (J := []) (K' := []) ((h1.up l36 rfl).up l42 rfl) b42 (Part.own false ([] : List Str) ([] : List Str) ([] : List Str) ([] : List Str) (owsN []) (owsN []) (owsN []) (owsN [])) rfl rfl e47) ?_
     rintro v48 _ ⟨W48, rfl, l48, o48⟩
     refine Lw.u (T.st0 (v := v48) ((b40.up l42 rfl).up l48 rfl) rfl rfl o48.oc rfl rfl) ?_
     rintro _ _ ⟨W52, rfl, l52, b52⟩
     refine Lw.nil (Cw.region (Lw.m (vI (w64 ((x1.length : Int) - 1))) rfl (Lw.add rfl (Lw.g (vI (w64 ((w64 ((x1.length : Int) - 1)) + 1))) rfl (Lw.nil (⟨?_, ⟨w64 ((w64 ((x1.length : Int) - 1)) + 1), q46, v48, W52, rfl, ((l36.sub rfl).trans ((l42.sub rfl).trans ((l48.sub rfl).trans (l52.sub rfl)))), rfl, (o48.up l52 rfl), b52, hm⟩⟩))))))
     iterate 7 (refine Agree.up rfl ?_)
     iterate 1 (refine Agree.up rfl ?_)
     refine Agree.ov0 rfl ?_
     exact Agree.refl _
    ·replace hm := bf hm hc41
     refine Cw.skip (⟨?_, ⟨w64 ((x1.length : Int) - 1), x1, v1_, W36, rfl, (l36.sub rfl), rfl, (h1.up l36 rfl), b40, hm⟩⟩)
     iterate 1 (refine Agree.up rfl ?_)
     refine Agree.ov0 rfl ?_
     exact Agree.refl _
   ·refine Cw.region (Lw.m (vI (w64 ((x1.length : Int) - 1))) rfl (Lw.lt rfl (Lw.m (vB (decide ((w64 ((x1.length : Int) - 1) : Int) < (0 : Int)))) rfl (bsplit (decide ((w64 ((x1.length : Int) - 1) : Int) < (0 : Int))) (fun hc56 => ?_) (fun hc56 => ?_)))))
    ·replace hm := bt hm hc56
     refine Lw.pass' hc56 rfl rfl rfl rfl rfl rfl rfl (Lw.pass' hc56 rfl rfl rfl rfl rfl rfl rfl (Lw.pass' hc56 rfl rfl rfl rfl rfl rfl rfl (Lw.pass' hc56 rfl rfl rfl rfl rfl rfl rfl (Lw.pass' hc56 rfl rfl rfl rfl rfl rfl rfl (Lw.p hc56 (vB true) rfl (Lw.nil (⟨?_, ⟨true, W0, rfl, Le.refl _ _, rfl, hm⟩⟩)))))))
     iterate 9 (refine Agree.up rfl ?_)
     exact Agree.refl _
    ·replace hm := bf hm hc56
     refine Lw.want' hc56 rfl rfl rfl rfl (Lw.r rfl (R.ld (v := v1_) rfl rfl (hB1.cell0 rfl)) (Lw.want' hc56 rfl rfl rfl rfl (Lw.m (vI (w64 ((x1.length : Int) - 1))) rfl (Lw.want' hc56 rfl rfl rfl rfl ?_))))
     obtain ⟨u57, e58, hm⟩ := ob hm
     refine Lw.r rfl (R.ix (α := Part) h1.rd e58 rfl rfl rfl) (Lw.want' hc56 rfl rfl rfl rfl (Lw.fa rfl (Lw.want' hc56 rfl rfl rfl rfl (Lw.r rfl (R.ld rfl rfl (Part.at0 (h1.rd.at_ e58)).bool) (Lw.p hc56 (vB u57.Clash) rfl (Lw.nil (⟨?_, ⟨u57.Clash, W0, rfl, Le.refl _ _, rfl, hm⟩⟩)))))))
     iterate 9 (refine Agree.up rfl ?_)
     exact Agree.refl _

theorem p97 {W : CW} {K : List Nat} {x0 : List Str} {v0_ : Value} {x1 : List Vm.Part} {g1_ : Nat} {v1_ : Value} {c0 : Nat} {c1 : Nat} {r : (List Vm.Part)} (h0 : Rd W K [v0_] x0) (hB1 : Bx W c0 g1_ [v1_]) (h1 : Ow W c1 [] [v1_] x1) (hJ : okJ K [c0, c1] = true) (hm : Vm.impl_mergeOf_c1 x0 x1 = some r) : CallR Try.prog 97 [v0_, ptr (bx g1_)].toArray W.w (Res W [c0, c1] fun W' v => ∃ (uc1 : Value), v = .tuple #[] ∧ Ow W' c1 [] [uc1] r ∧ Bx W' c0 g1_ [uc1]) :=
 CallR.adJ (J := [c0, c1]) (fun c => bif Nat.beq c 0 then 0 else bif Nat.beq c 2 then c0 else bif Nat.beq c 3 then c1 else 0) (c97 (V := W.view K [c0, c1]) (h0.view _) (hB1.viewJ 0 hJ) (h1.viewJ 1 hJ) hm) fun _ _ ⟨uc1, e, f0, f1⟩ => ⟨uc1, e, Ow.backJ 1 f0 rfl, Bx.backJ 0 f1 rfl⟩

end Go.Sx
