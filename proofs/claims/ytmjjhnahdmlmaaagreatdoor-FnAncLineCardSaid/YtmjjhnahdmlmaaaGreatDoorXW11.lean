/- Walks: each function answers as its model, printed by a program of ours. Conditions: the arguments read as they are given. -/
import Derived.Test.YtmjjhnahdmlmaaaGreatDoorXTs
import Derived.Test.YtmjjhnahdmlmaaaGreatDoorXMd
import Derived.Test.YtmjjhnahdmlmaaaGreatDoorXW0
import Derived.Test.YtmjjhnahdmlmaaaGreatDoorXW10
import Derived.Test.YtmjjhnahdmlmaaaGreatDoorXW2
import Derived.Test.YtmjjhnahdmlmaaaGreatDoorXW4
import Derived.Test.YtmjjhnahdmlmaaaGreatDoorXW8
import Derived.Test.YtmjjhnahdmlmaaaGreatDoorXW9
namespace Go.Sx
open Go Go.Proofs Go.Vm Rp
set_option linter.unusedVariables false
set_option linter.unusedSimpArgs false

theorem c12 {V : CW} {x0 : List Byte} {v0_ : Value} {r : Vm.Repo × Int × Int} (h0 : Rd V [0] [v0_] x0) (hm : Vm.spec_DrawAncIs x0 = some r) : CallR Tryz.prog 12 [v0_].toArray V.w (Res V LL fun Wf v => ∃ (u0_0 : Value) (u0_1 : Value), v = .tuple [.agg [u0_0, u0_1].toArray, vI r.2.1, vI r.2.2].toArray ∧ OwS Wf [31] [] [u0_0] r.1.Commits ∧ OwS Wf [32] [] [u0_1] r.1.Heads) := by
 unfold Vm.spec_DrawAncIs at hm
 obtain ⟨W0, hW0⟩ : ∃ W, W = V := ⟨V, rfl⟩
 subst hW0
 refine CallR.of Tryz.func12 rfl rfl rfl rfl (Cw.seq (Cw.region (Lw.t rfl (T.alloc 2 (cs := [.slice none 0 0, .slice none 0 0]) rfl) ?_)))
 rintro _ _ ⟨g1, W1, rfl, rfl, l1, b1⟩
 have a2 := l1.o
 refine Lw.g (vI 0) rfl (Lw.g (vI 0) rfl (Lw.nil (Cw.seq (Cw.region (Lw.m v0_ rfl ?_)))))
 obtain ⟨z4, e5, hm⟩ := ob hm
 refine Lw.t rfl (T.call rfl (p24 (K := [0]) (k0 := 3) (h0.ul a2) e5)) ?_
 rintro _ _ ⟨W6, rfl, l6, ⟨g0_6, v0_0_6, rfl, f6_0, f6_1⟩⟩
 have s7 := f6_1.sub (M := [0]) rfl
 have a8 := a2.n l6
 refine Lw.g (ptr (bx g0_6)) rfl (Lw.nil (Cw.seq (Cw.region (Lw.m (ptr (bx g0_6)) rfl ?_))))
 obtain ⟨z10, e11, hm⟩ := ob hm
 refine Lw.t rfl (T.call rfl (p25 (K := [0]) (k0 := 4) (k1 := 5) (c0 := 3) (x0 := z4) f6_0 s7 rfl e11)) ?_
 rintro _ _ ⟨W12, rfl, l12, ⟨v0_0_12, v0_1_12, rfl, f12_0, f12_1, f12_2⟩⟩
 have a13 := l12.s rfl
 refine Lw.t rfl (T.alloc 6 (cs := [.slice none 0 0, .slice none 0 0]) rfl) ?_
 rintro _ _ ⟨g15, W15, rfl, rfl, l15, b15⟩
 have a16 := l15.o
 refine Lw.u (T.sta (vs := [v0_0_12, v0_1_12]) b15 rfl rfl (oc_cons (f12_0.up l15 rfl).oc (oc_cons (f12_1.up l15 rfl).oc oc_nil)) rfl rfl) ?_
 rintro _ _ ⟨W21, rfl, l21, b21⟩
 have a22 := l21.s rfl
 have o23 := (f12_0.up l15 rfl).up l21 rfl
 have o24 := (f12_1.up l15 rfl).up l21 rfl
 refine Lw.nil (Cw.seq (Cw.region (Lw.m (ptr (bx g0_6)) rfl (Lw.r rfl (R.lda (cs := [v0_0_12, v0_1_12]) b21.cells rfl rfl) ?_))))
 obtain ⟨z28, e29, hm⟩ := ob hm
 refine Lw.t rfl (T.call rfl (p26 (K := [0, 4, 5])  (c0 := 3) (x0 := (Vm.l30Rd.mk z4.b z10.2)) (x1 := (Vm.Repo.mk z10.1.Commits z10.1.Heads)) ((f12_2.up l15 rfl).up l21 rfl) ((s7.ul ((a13.trans a16).trans a22)).sub (M := [0, 4, 5]) rfl) ((Repo.rd (K := [4, 5]) z10.1.Commits z10.1.Heads (o23.rd.sub (M := [4, 5]) rfl) (o24.rd.sub (M := [4, 5]) rfl)).sub (M := [0, 4, 5]) rfl) rfl e29)) ?_
 rintro _ _ ⟨W30, rfl, l30, ⟨rfl, f30_0⟩⟩
 have a31 := l30.s rfl
 refine Lw.g (vI z28.1) rfl (Lw.nil (Cw.seq (Cw.draw [2, 3] [(0, 1), (1, 0), (2, 0), (3, 1), (4, 2), (5, 2), (6, 0), (7, 0)] mixed (by kernel_rfl) fun W36 l36 => ?_)))
 have a37 := l36.o
 have o38 := (o23.up l30 rfl).up l36 rfl
 have o39 := (o24.up l30 rfl).up l36 rfl
 have b42 := (b21.up l30 rfl).up l36 rfl
 refine Mw.q rfl rfl (fun _ c => R.lda (cs := [v0_0_12, v0_1_12]) (b42.clcs rfl c) rfl rfl) (Mw.p rfl rfl (fun _ => R.mv (v := vI z28.1) rfl) (Mw.p rfl rfl (fun _ => R.mv (v := ptr (bx g0_6)) rfl) (Mw.q rfl rfl (fun _ c => R.lda (cs := [v0_0_12, v0_1_12]) (b42.clcs rfl c) rfl rfl) ?_)))
 obtain ⟨z44, e45, hm⟩ := ob hm
 refine Mw.t rfl rfl (T.call rfl (p26 (K := [0, 4, 5])  (c0 := 3) (x0 := (Vm.l30Rd.mk z4.b z28.2)) (x1 := (Vm.Repo.mk z10.1.Commits z10.1.Heads)) (f30_0.up l36 rfl) ((s7.ul ((((a13.trans a16).trans a22).trans a31).trans a37)).sub (M := [0, 4, 5]) rfl) ((Repo.rd (K := [4, 5]) z10.1.Commits z10.1.Heads (o38.rd.sub (M := [4, 5]) rfl) (o39.rd.sub (M := [4, 5]) rfl)).sub (M := [0, 4, 5]) rfl) rfl e45)) ?_
 rintro _ _ ⟨W46, rfl, l46, ⟨rfl, f46_0⟩⟩
 have a47 := (((((a8.trans a13).trans a16).trans a22).trans a31).trans a37).t l46 rfl
 refine ⟨⟨_, rfl, (l46.sub (M := [2, 3]) rfl)⟩, ?_⟩
 refine Mw.tu rfl (T.sta (vs := [v0_0_12, v0_1_12]) (((((((b1.up l6 rfl).up l12 rfl).up l15 rfl).up l21 rfl).up l30 rfl).up l36 rfl).up l46 rfl) rfl rfl (oc_cons (o38.up l46 rfl).oc (oc_cons (o39.up l46 rfl).oc oc_nil)) rfl rfl) ?_
 rintro _ _ ⟨W52, rfl, l52, b52⟩
 have a53 := a47.t l52 rfl
 refine ⟨⟨_, rfl, ((l46.sub (M := [2, 3]) rfl).trans (l52.sub (M := [2, 3]) rfl))⟩, ?_⟩
 refine Mw.p rfl rfl (fun _ => R.as (v := vI z28.1) rfl) (Mw.p rfl rfl (fun _ => R.as (v := vI z44.1) rfl) (Mw.nil ?_))
 obtain ⟨W58, ew58, l58, o58⟩ := ((o38.up l46 rfl).up l52 rfl).dyeO 31
 have a59 := a53.t l58 rfl
 obtain ⟨W64, ew64, l64, o64⟩ := (((o39.up l46 rfl).up l52 rfl).up l58 rfl).dyeO 32
 have a65 := a59.t l64 rfl
 cases hm
 rw [← ew64.trans (ew58)]
 exact Cw.ret (retG (ResOk.c rfl ((b52.up l58 rfl).up l64 rfl) (ResOk.t rfl (ResOk.t rfl ResOk.n))) (Res.mk a65 ⟨v0_0_12, v0_1_12, rfl, (o58.up l64 rfl).s, o64.s⟩))

theorem p12 {W : CW} {K : List Nat} {x0 : List Byte} {v0_ : Value} {k0 : Nat} {k1 : Nat} {r : Vm.Repo × Int × Int} (h0 : Rd W K [v0_] x0) (hm : Vm.spec_DrawAncIs x0 = some r) : CallR Tryz.prog 12 [v0_].toArray W.w (Res W [] fun W' v => ∃ (u0_0 : Value) (u0_1 : Value), v = .tuple [.agg [u0_0, u0_1].toArray, vI r.2.1, vI r.2.2].toArray ∧ Ow W' k0 [] [u0_0] r.1.Commits ∧ Ow W' k1 [] [u0_1] r.1.Heads) :=
 CallR.adJ (J := []) (fun c => bif Nat.beq c 0 then 0 else bif Nat.beq c 31 then k0 else bif Nat.beq c 32 then k1 else 0) (c12 (V := W.view K []) (h0.view _) hm) fun _ _ ⟨u0_0, u0_1, e, f0, f1⟩ => ⟨u0_0, u0_1, e, f0.one1.backN rfl, f1.one1.backN rfl⟩

theorem c37 {V : CW} {x0 : Vm.Repo} {v0_0_ : Value} {v0_1_ : Value} {x1 : List Int} {v1_ : Value} {r : Bool} (h0 : Rd V [0] [v0_0_, v0_1_] x0) (h1 : Rd V [0] [v1_] x1) (h99 : Gl 0 V [0]) (hm : Vm.impl_Repo_are x0 x1 = some r) : CallR Tryz.prog 37 [.agg [v0_0_, v0_1_].toArray, v1_].toArray V.w (Res V LL fun Wf v => v = vB r) := by
 unfold Vm.impl_Repo_are at hm
 obtain ⟨w0_0, w0_1, he0, h0_0, h0_1⟩ := Repo.split h0
 simp only [List.cons.injEq, and_true, true_and] at he0
 obtain ⟨rfl, rfl⟩ := he0
 obtain ⟨W0, hW0⟩ : ∃ W, W = V := ⟨V, rfl⟩
 subst hW0
 refine CallR.of Tryz.func37 rfl rfl rfl rfl (Cw.seq (Cw.region (Lw.t rfl (T.box 2 (v := .agg [v0_0_, v0_1_].toArray) (cs := [v0_0_, v0_1_]) rfl rfl) ?_)))
 rintro _ _ ⟨g1, W1, rfl, rfl, l1, b1⟩
 have a2 := l1.o
 refine Lw.g (vB false) rfl (Lw.nil (Cw.seq (Cw.seq (Cw.region (Lw.r rfl (R.lda (cs := [v0_0_, v0_1_]) b1.cells rfl rfl) ?_)))))
 obtain ⟨z6, e7, hm⟩ := ob hm
 refine Lw.t rfl (T.call rfl (p15 (K := [0])  (Repo.rd (K := [0]) x0.Commits x0.Heads (h0_0.ul a2) (h0_1.ul a2)) (h99.ul a2) e7)) ?_
 rintro _ _ ⟨W8, rfl, l8, rfl⟩
 have a9 := a2.n l8
 refine Lw.r rfl (R.not rfl) (Lw.nil (Cw.cond (b := (!z6)) rfl (fun hc11 => ?_) (fun hc11 => ?_)))
 ·replace hm := bt hm hc11
  refine Cw.seq (Cw.region (Lw.g (vB false) rfl (Lw.nil ?_)))
  cases hm
  exact Cw.ret (ret1 rfl (Res.mk a9 rfl))
 ·replace hm := bf hm hc11
  refine Cw.skip (Cw.seq (Cw.seq (Cw.region (Lw.m v1_ rfl (Lw.ln x1 (h1.ul a9) rfl (Lw.m (vI 0) rfl (Lw.nil (Cw.block ?_))))))))
  obtain ⟨K17, hK17, hm⟩ := jn_e hm
  refine Cw.loop 12 20 [4, 6, 12] (fun m l w => ∃ (y13 : Bool) (y15 : Int) (j14 : Value) (W16 : CW), W16.w = w ∧ Le [] W8 W16 ∧ l = [vB y13, j14, vI y15] ∧ Vm.impl_Repo_are_l1 x0 x1 K17 m y13 y15 = some r) (((x1.length : Int) - 0).toNat + 1) ⟨false, 0, undef, W8, rfl, Le.refl _ _, rfl, hm⟩ ?_
  rintro m18 _ _ σ ⟨y13, y15, j14, W16, rfl, l16, rfl, hm⟩
  obtain _ | m18 := m18
  ·cases hm
  unfold Vm.impl_Repo_are_l1 at hm
  have a19 := a9.n l16
  refine Cw.seq (Cw.region (Lw.lt rfl (Lw.nil (Cw.seq (Cw.cond (b := decide ((y15 : Int) < ((x1.length : Int) : Int))) rfl (fun hc21 => ?_) (fun hc21 => ?_))))))
  ·replace hm := bt hm hc21
   refine Cw.skip (Cw.seq (Cw.block (Cw.seq (Cw.region ?_))))
   obtain ⟨u22, e23, hm⟩ := ob hm
   refine Lw.r rfl (R.ix (α := Int) (h1.ul a19) e23 rfl rfl rfl) (Lw.r rfl (R.ld rfl rfl ((h1.ul a19).at_ e23).int) (Lw.g (vI u22) rfl (Lw.nil (Cw.seq (Cw.region (Lw.r rfl (R.lda (cs := [v0_0_, v0_1_]) ((b1.up l8 rfl).up l16 rfl).cells rfl rfl) (Lw.m (vI u22) rfl ?_)))))))
   obtain ⟨z27, e28, hm⟩ := ob hm
   refine Lw.t rfl (T.call rfl (p27 (K := [0])  (Repo.rd (K := [0]) x0.Commits x0.Heads (h0_0.ul a19) (h0_1.ul a19)) e28)) ?_
   rintro _ _ ⟨W29, rfl, l29, rfl⟩
   have a30 := a19.n l29
   refine Lw.r rfl (R.not rfl) (Lw.nil (Cw.cond (b := (!z27)) rfl (fun hc32 => ?_) (fun hc32 => ?_)))
   ·replace hm := bt hm hc32
    refine Cw.seq (Cw.region (Lw.g (vB false) rfl (Lw.nil ?_)))
    cases hm
    exact Cw.ret (ret1 rfl (Res.mk a30 rfl))
   ·replace hm := bf hm hc32
    refine Cw.skip (Cw.region (Lw.add rfl (Lw.m (vI (w64 (y15 + 1))) rfl (Lw.nil (⟨?_, m18, Nat.lt_succ_self m18, ⟨y13, w64 (y15 + 1), vI u22, W29, rfl, (l16.trans l29), rfl, hm⟩⟩)))))
    iterate 13 (refine .u ?_)
    exact Agree.base
  ·replace hm := bf hm hc21
   refine Cw.exit ?_
   rw [hK17] at hm
   refine Cw.seq (Cw.region (Lw.g (vB true) rfl (Lw.nil ?_)))
   cases hm
   exact Cw.ret (ret1 rfl (Res.mk a19 rfl))

theorem p37 {W : CW} {K : List Nat} {x0 : Vm.Repo} {v0_0_ : Value} {v0_1_ : Value} {x1 : List Int} {v1_ : Value} {r : Bool} (h0 : Rd W K [v0_0_, v0_1_] x0) (h1 : Rd W K [v1_] x1) (h99 : Gl 0 W K) (hm : Vm.impl_Repo_are x0 x1 = some r) : CallR Tryz.prog 37 [.agg [v0_0_, v0_1_].toArray, v1_].toArray W.w (Res W [] fun W' v => v = vB r) :=
 (c37 (V := W.view K []) (h0.view _) (h1.view _) (h99.view _) hm).ad (fk 0) fun _ _ e => e

theorem c38 {V : CW} {x0 : Vm.Repo} {v0_0_ : Value} {v0_1_ : Value} {x1 : Int} {r : (List Bool)} (h0 : Rd V [0] [v0_0_, v0_1_] x0) (hm : Vm.impl_Repo_ancestors x0 x1 = some r) : CallR Tryz.prog 38 [.agg [v0_0_, v0_1_].toArray, vI x1].toArray V.w (Res V LL fun Wf v => ∃ (u0 : Value), v = u0 ∧ OwS Wf LL [] [u0] r) := by
 unfold Vm.impl_Repo_ancestors at hm
 obtain ⟨w0_0, w0_1, he0, h0_0, h0_1⟩ := Repo.split h0
 simp only [List.cons.injEq, and_true, true_and] at he0
 obtain ⟨rfl, rfl⟩ := he0
 obtain ⟨W0, hW0⟩ : ∃ W, W = V := ⟨V, rfl⟩
 subst hW0
 refine CallR.of Tryz.func38 rfl rfl rfl rfl (Cw.seq (Cw.region (Lw.t rfl (T.box 2 (v := .agg [v0_0_, v0_1_].toArray) (cs := [v0_0_, v0_1_]) rfl rfl) ?_)))
 rintro _ _ ⟨g1, W1, rfl, rfl, l1, b1⟩
 have a2 := l1.o
 refine Lw.g (.slice none 0 0) rfl (Lw.nil (Cw.seq (Cw.region (Lw.fa rfl (Lw.r rfl (R.ld (v := v0_0_) rfl rfl (b1.cell rfl)) (Lw.ln x0.Commits (h0_0.ul a2) rfl ?_))))))
 obtain ⟨q4, e5, hm⟩ := ob hm
 refine Lw.t rfl (T.mk (α := Bool) 3 [] (n := (x0.Commits.length : Int)) rfl rfl e5) ?_
 rintro v6 _ ⟨W6, rfl, l6, o6⟩
 have a7 := a2.n l6
 refine Lw.g v6 rfl (Lw.nil (Cw.seq (Cw.region (Lw.m v6 rfl (Lw.m (vI x1) rfl ?_)))))
 obtain ⟨u9, e10, hm⟩ := ob hm
 refine Lw.r rfl (R.ix (α := Bool) o6.rd e10 rfl rfl rfl) ?_
 obtain ⟨q12, e13, hm⟩ := ob hm
 refine Lw.u (T.stS (K' := []) o6 (rdB _) e13 rfl rfl rfl) ?_
 rintro _ _ ⟨W11, rfl, l11, o11⟩
 have a14 := a7.t l11 rfl
 refine Lw.nil (Cw.seq (Cw.seq (Cw.region (Lw.m (vI x1) rfl (Lw.g (vI x1) rfl (Lw.nil (Cw.block ?_)))))))
 obtain ⟨K21, hK21, hm⟩ := jn_e hm
 refine Cw.loop 17 39 [6, 8] (fun m l w => ∃ (y16 : Int) (y18 : List Bool) (j17 : Value) (W20 : CW), W20.w = w ∧ Le [3] W11 W20 ∧ l = [vI y16, j17] ∧ Ow W20 3 [] [v6] y18 ∧ Vm.impl_Repo_ancestors_l1 x0 K21 m y16 y18 = some r) ((x1 + 1 - 0).toNat + 1) ⟨x1, q12, undef, W11, rfl, Le.refl _ _, rfl, o11, hm⟩ ?_
 rintro m22 _ _ σ ⟨y16, y18, j17, W20, rfl, l20, rfl, o19, hm⟩
 obtain _ | m22 := m22
 ·cases hm
 unfold Vm.impl_Repo_ancestors_l1 at hm
 have a23 := a14.t l20 rfl
 refine Cw.seq (Cw.seq (Cw.region (Lw.m (vI y16) rfl (Lw.ge rfl (Lw.nil (Cw.cond (b := decide ((0 : Int) ≤ (y16 : Int))) rfl (fun hc25 => ?_) (fun hc25 => ?_)))))))
 ·replace hm := bt hm hc25
  refine Cw.skip ?_
  obtain ⟨K30, hK30, hm⟩ := jn_e hm
  refine Cw.join 21 39 [8] (fun l w => ∃ (y27 : List Bool) (j26 : Value) (W29 : CW), W29.w = w ∧ Le [3] W20 W29 ∧ l = [j26] ∧ Ow W29 3 [] [v6] y27 ∧ K30 y27 = some r) ?_ ?_
  ·rintro _ _ σ ⟨y27, j26, W29, rfl, l29, rfl, o28, hm⟩
   rw [hK30] at hm
   refine Cw.region (Lw.m (vI y16) rfl (Lw.sub rfl (Lw.g (vI (w64 (y16 - 1))) rfl (Lw.nil (⟨?_, m22, Nat.lt_succ_self m22, ⟨w64 (y16 - 1), y27, j26, W29, rfl, (l20.trans l29), rfl, o28, hm⟩⟩)))))
   iterate 4 (refine .u ?_)
   refine Agree.ov0 rfl ?_
   iterate 4 (refine .u ?_)
   exact Agree.base
  ·refine Cw.block (Cw.seq (Cw.region (Lw.m v6 rfl (Lw.m (vI y16) rfl ?_))))
   obtain ⟨u33, e34, hm⟩ := ob hm
   refine Lw.r rfl (R.ix (α := Bool) o19.rd e34 rfl rfl rfl) (Lw.r rfl (R.ld rfl rfl (o19.rd.at_ e34).bool) (Lw.nil (Cw.cond (b := u33) rfl (fun hc35 => ?_) (fun hc35 => ?_))))
   ·replace hm := bt hm hc35
    refine Cw.seq (Cw.region (Lw.fa rfl (Lw.r rfl (R.ld (v := v0_0_) rfl rfl ((((b1.up l6 rfl).up l11 rfl).up l20 rfl).cell rfl)) (Lw.m (vI y16) rfl ?_))))
    obtain ⟨u36, e37, hm⟩ := ob hm
    refine Lw.r rfl (R.ix (α := Commit) (h0_0.ul a23) e37 rfl rfl rfl) (Lw.fa rfl ?_)
    obtain ⟨v39, c40, r41⟩ := (Commit.at0 ((h0_0.ul a23).at_ e37)).cell rfl
    refine Lw.r rfl (R.ld rfl rfl c40) (Lw.ln u36.Parents r41 rfl (Lw.m (vI 0) rfl (Lw.nil (Cw.block (Cw.loop 32 39 [8, 32] (fun m l w => ∃ (y43 : Int) (y44 : List Bool) (j42 : Value) (W46 : CW), W46.w = w ∧ Le [3] W20 W46 ∧ l = [j42, vI y43] ∧ Ow W46 3 [] [v6] y44 ∧ Vm.impl_Repo_ancestors_l2 K30 u36 m y43 y44 = some r) (((u36.Parents.length : Int) - 0).toNat + 1) ⟨0, y18, j17, W20, rfl, Le.refl _ _, rfl, o19, hm⟩ ?_)))))
    rintro m48 _ _ σ ⟨y43, y44, j42, W46, rfl, l46, rfl, o45, hm⟩
    obtain _ | m48 := m48
    ·cases hm
    unfold Vm.impl_Repo_ancestors_l2 at hm
    have a49 := l46.s rfl
    refine Cw.seq (Cw.region (Lw.lt rfl (Lw.nil (Cw.seq (Cw.cond (b := decide ((y43 : Int) < ((u36.Parents.length : Int) : Int))) rfl (fun hc51 => ?_) (fun hc51 => ?_))))))
    ·replace hm := bt hm hc51
     refine Cw.skip (Cw.seq (Cw.block (Cw.seq (Cw.region ?_))))
     obtain ⟨u52, e53, hm⟩ := ob hm
     refine Lw.r rfl (R.ix (α := Int) (r41.ul a49) e53 rfl rfl rfl) (Lw.r rfl (R.ld rfl rfl ((r41.ul a49).at_ e53).int) (Lw.g (vI u52) rfl (Lw.nil (Cw.region (Lw.m v6 rfl (Lw.m (vI u52) rfl ?_))))))
     obtain ⟨u55, e56, hm⟩ := ob hm
     refine Lw.r rfl (R.ix (α := Bool) o45.rd e56 rfl rfl rfl) ?_
     obtain ⟨q58, e59, hm⟩ := ob hm
     refine Lw.u (T.stS (K' := []) o45 (rdB _) e59 rfl rfl rfl) ?_
     rintro _ _ ⟨W57, rfl, l57, o57⟩
     refine Lw.nil (Cw.region (Lw.add rfl (Lw.m (vI (w64 (y43 + 1))) rfl (Lw.nil (⟨?_, m48, Nat.lt_succ_self m48, ⟨w64 (y43 + 1), q58, vI u52, W57, rfl, (l46.trans l57), rfl, o57, hm⟩⟩)))))
     iterate 11 (refine .u ?_)
     exact Agree.base
    ·replace hm := bf hm hc51
     refine Cw.exit (⟨?_, ⟨y44, j42, W46, rfl, l46, rfl, o45, hm⟩⟩)
     iterate 3 (refine .u ?_)
     refine Agree.ov0 rfl ?_
     iterate 12 (refine .u ?_)
     exact Agree.refl _
   ·replace hm := bf hm hc35
    refine Cw.skip (⟨?_, ⟨y18, j17, W20, rfl, Le.refl _ _, rfl, o19, hm⟩⟩)
    iterate 4 (refine .u ?_)
    exact Agree.refl _
 ·replace hm := bf hm hc25
  refine Cw.exit ?_
  rw [hK21] at hm
  refine Cw.seq (Cw.region (Lw.m v6 rfl (Lw.g v6 rfl (Lw.nil ?_))))
  cases hm
  exact Cw.ret (ret1 rfl (Res.mk a23 ⟨v6, rfl, o19.s.sub rfl rfl⟩))

theorem p38 {W : CW} {K : List Nat} {x0 : Vm.Repo} {v0_0_ : Value} {v0_1_ : Value} {x1 : Int} {k0 : Nat} {r : (List Bool)} (h0 : Rd W K [v0_0_, v0_1_] x0) (hm : Vm.impl_Repo_ancestors x0 x1 = some r) : CallR Tryz.prog 38 [.agg [v0_0_, v0_1_].toArray, vI x1].toArray W.w (Res W [] fun W' v => ∃ (u0 : Value), v = u0 ∧ Ow W' k0 [] [u0] r) :=
 (c38 (V := W.view K []) (h0.view _) hm).ad (fk k0) fun _ _ ⟨u0, e, f0⟩ => ⟨u0, e, f0.back (fk_LL _)⟩

theorem c13 {V : CW} {x0 : Vm.Repo} {v0_0_ : Value} {v0_1_ : Value} {x1 : Int} {x2 : Int} {r : Bool} (h0 : Rd V [0] [v0_0_, v0_1_] x0) (h99 : Gl 0 V [0]) (hm : Vm.impl_AncIs x0 x1 x2 = some r) : CallR Tryz.prog 13 [.agg [v0_0_, v0_1_].toArray, vI x1, vI x2].toArray V.w (Res V LL fun Wf v => v = vB r) := by
 unfold Vm.impl_AncIs at hm
 obtain ⟨w0_0, w0_1, he0, h0_0, h0_1⟩ := Repo.split h0
 simp only [List.cons.injEq, and_true, true_and] at he0
 obtain ⟨rfl, rfl⟩ := he0
 obtain ⟨W0, hW0⟩ : ∃ W, W = V := ⟨V, rfl⟩
 subst hW0
 refine CallR.of Tryz.func13 rfl rfl rfl rfl (Cw.seq (Cw.region (Lw.t rfl (T.box 2 (v := .agg [v0_0_, v0_1_].toArray) (cs := [v0_0_, v0_1_]) rfl rfl) ?_)))
 rintro _ _ ⟨g1, W1, rfl, rfl, l1, b1⟩
 have a2 := l1.o
 refine Lw.g (vB false) rfl (Lw.nil ?_)
 obtain ⟨K5, hK5, hm⟩ := jn_e hm
 refine Cw.join 7 19 [6] (fun l w => ∃ (y3 : Bool) (W4 : CW), W4.w = w ∧ Le [] W1 W4 ∧ l = [vB y3] ∧ K5 y3 = some r) ?_ ?_
 ·rintro _ _ σ ⟨y3, W4, rfl, l4, rfl, hm⟩
  rw [hK5] at hm
  have a6 := a2.n l4
  cases hm
  exact Cw.ret (ret1 rfl (Res.mk a6 rfl))
 ·refine Cw.region (Lw.r rfl (R.lda (cs := [v0_0_, v0_1_]) b1.cells rfl rfl) (Lw.m (vI x1) rfl (Lw.m (vI x2) rfl (Lw.t rfl (T.bsS (α := Int) (xs := [x1, x2]) 3 [] (W := W1) [vI x1, vI x2] (Each.cons ((rdI _)) (Each.cons ((rdI _)) Each.nil)) rfl) ?_))))
  rintro v8 _ ⟨W8, rfl, l8, o8⟩
  have a9 := a2.n l8
  obtain ⟨z14, e15, hm⟩ := ob hm
  refine Lw.t rfl (T.call rfl (p37 (K := [0, 3])  ((Repo.rd (K := [0]) x0.Commits x0.Heads (h0_0.ul a9) (h0_1.ul a9)).sub (M := [0, 3]) rfl) (o8.rd.sub (M := [0, 3]) rfl) ((h99.ul a9).sub (M := [0, 3]) rfl) e15)) ?_
  rintro _ _ ⟨W16, rfl, l16, rfl⟩
  have a17 := a9.n l16
  refine Lw.m (vB z14) rfl (bsplit z14 (fun hc20 => ?_) (fun hc20 => ?_))
  ·replace hm := bt hm hc20
   refine Lw.wa hc20 rfl (Lw.r rfl (R.lda (cs := [v0_0_, v0_1_]) ((b1.up l8 rfl).up l16 rfl).cells rfl rfl) (Lw.wa hc20 rfl (Lw.m (vI x2) rfl (Lw.wa hc20 rfl ?_))))
   obtain ⟨z23, e24, hm⟩ := ob hm
   refine Lw.t rfl (T.call rfl (p38 (K := [0]) (k0 := 4) (Repo.rd (K := [0]) x0.Commits x0.Heads (h0_0.ul a17) (h0_1.ul a17)) e24)) ?_
   rintro v0_25 _ ⟨W25, rfl, l25, ⟨_, rfl, f25_0⟩⟩
   refine Lw.wa hc20 rfl (Lw.m (vI x1) rfl (Lw.wa hc20 rfl ?_))
   obtain ⟨u29, e30, hm⟩ := ob hm
   refine Lw.r rfl (R.ix (α := Bool) f25_0.rd e30 rfl rfl rfl) (Lw.wa hc20 rfl (Lw.r rfl (R.ld rfl rfl (f25_0.rd.at_ e30).bool) (Lw.p hc20 (vB u29) rfl (Lw.g (vB u29) rfl (Lw.nil (⟨?_, ⟨u29, W25, rfl, (l8.trans (l16.trans l25)), rfl, hm⟩⟩))))))
   iterate 14 (refine .u ?_)
   exact Agree.refl _
  ·replace hm := bf hm hc20
   refine Lw.ps hc20 rfl (Lw.ps hc20 rfl (Lw.ps hc20 rfl (Lw.ps hc20 rfl (Lw.ps hc20 rfl (Lw.ps hc20 rfl (Lw.p hc20 (vB false) rfl (Lw.g (vB false) rfl (Lw.nil (⟨?_, ⟨false, W16, rfl, (l8.trans l16), rfl, hm⟩⟩)))))))))
   iterate 14 (refine .u ?_)
   exact Agree.refl _

theorem p13 {W : CW} {K : List Nat} {x0 : Vm.Repo} {v0_0_ : Value} {v0_1_ : Value} {x1 : Int} {x2 : Int} {r : Bool} (h0 : Rd W K [v0_0_, v0_1_] x0) (h99 : Gl 0 W K) (hm : Vm.impl_AncIs x0 x1 x2 = some r) : CallR Tryz.prog 13 [.agg [v0_0_, v0_1_].toArray, vI x1, vI x2].toArray W.w (Res W [] fun W' v => v = vB r) :=
 (c13 (V := W.view K []) (h0.view _) (h99.view _) hm).ad (fk 0) fun _ _ e => e

theorem c14 {V : CW} {x0 : Vm.Repo} {v0_0_ : Value} {v0_1_ : Value} {x1 : Int} {x2 : Int} {r : Bool} (h0 : Rd V [0] [v0_0_, v0_1_] x0) (hm : Vm.spec_AncIs x0 x1 x2 = some r) : CallR Tryz.prog 14 [.agg [v0_0_, v0_1_].toArray, vI x1, vI x2].toArray V.w (Res V LL fun Wf v => v = vB r) := by
 unfold Vm.spec_AncIs at hm
 obtain ⟨w0_0, w0_1, he0, h0_0, h0_1⟩ := Repo.split h0
 simp only [List.cons.injEq, and_true, true_and] at he0
 obtain ⟨rfl, rfl⟩ := he0
 obtain ⟨W0, hW0⟩ : ∃ W, W = V := ⟨V, rfl⟩
 subst hW0
 refine CallR.of Tryz.func14 rfl rfl rfl rfl (Cw.seq (Cw.region (Lw.t rfl (T.box 2 (v := .agg [v0_0_, v0_1_].toArray) (cs := [v0_0_, v0_1_]) rfl rfl) ?_)))
 rintro _ _ ⟨g1, W1, rfl, rfl, l1, b1⟩
 have a2 := l1.o
 refine Lw.g (vB false) rfl (Lw.nil ?_)
 obtain ⟨K5, hK5, hm⟩ := jn_e hm
 refine Cw.join 7 31 [6] (fun l w => ∃ (y3 : Bool) (W4 : CW), W4.w = w ∧ Le [] W1 W4 ∧ l = [vB y3] ∧ K5 y3 = some r) ?_ ?_
 ·rintro _ _ σ ⟨y3, W4, rfl, l4, rfl, hm⟩
  rw [hK5] at hm
  have a6 := a2.n l4
  cases hm
  exact Cw.ret (ret1 rfl (Res.mk a6 rfl))
 ·refine Cw.region (Lw.r rfl (R.lda (cs := [v0_0_, v0_1_]) b1.cells rfl rfl) ?_)
  obtain ⟨z10, e11, hm⟩ := ob hm
  refine Lw.t rfl (T.call rfl (p30 (K := [0])  (Repo.rd (K := [0]) x0.Commits x0.Heads (h0_0.ul a2) (h0_1.ul a2)) e11)) ?_
  rintro _ _ ⟨W12, rfl, l12, rfl⟩
  have a13 := a2.n l12
  refine Lw.m (vB z10) rfl (bsplit z10 (fun hc15 => ?_) (fun hc15 => ?_))
  ·replace hm := bt hm hc15
   refine Lw.wa hc15 rfl (Lw.m (vI x1) rfl (Lw.wa hc15 rfl (Lw.fa rfl (Lw.wa hc15 rfl (Lw.r rfl (R.ld (v := v0_0_) rfl rfl ((b1.up l12 rfl).cell rfl)) (Lw.wa hc15 rfl (Lw.ln x0.Commits (h0_0.ul a13) rfl (Lw.wa hc15 rfl (Lw.sub rfl (Lw.wa hc15 rfl ?_))))))))))
   obtain ⟨z17, e18, hm⟩ := ob hm
   refine Lw.t rfl (T.call rfl (p31 (K := [0])   e18)) ?_
   rintro _ _ ⟨W19, rfl, l19, rfl⟩
   have a20 := a13.n l19
   have b21 := (b1.up l12 rfl).up l19 rfl
   refine Lw.p hc15 (vB z17) rfl (Lw.m (vB z17) rfl (bsplit z17 (fun hc22 => ?_) (fun hc22 => ?_)))
   ·replace hm := bt hm hc22
    refine Lw.wa hc22 rfl (Lw.m (vI x2) rfl (Lw.wa hc22 rfl (Lw.fa rfl (Lw.wa hc22 rfl (Lw.r rfl (R.ld (v := v0_0_) rfl rfl (b21.cell rfl)) (Lw.wa hc22 rfl (Lw.ln x0.Commits (h0_0.ul a20) rfl (Lw.wa hc22 rfl (Lw.sub rfl (Lw.wa hc22 rfl ?_))))))))))
    obtain ⟨z24, e25, hm⟩ := ob hm
    refine Lw.t rfl (T.call rfl (p31 (K := [0])   e25)) ?_
    rintro _ _ ⟨W26, rfl, l26, rfl⟩
    have a27 := a20.n l26
    refine Lw.p hc22 (vB z24) rfl (Lw.m (vB z24) rfl (bsplit z24 (fun hc29 => ?_) (fun hc29 => ?_)))
    ·replace hm := bt hm hc29
     refine Lw.wa hc29 rfl (Lw.r rfl (R.lda (cs := [v0_0_, v0_1_]) (b21.up l26 rfl).cells rfl rfl) (Lw.wa hc29 rfl (Lw.m (vI x2) rfl (Lw.wa hc29 rfl ?_))))
     obtain ⟨z32, e33, hm⟩ := ob hm
     refine Lw.t rfl (T.call rfl (p40 (K := [0]) (k0 := 3) (Repo.rd (K := [0]) x0.Commits x0.Heads (h0_0.ul a27) (h0_1.ul a27)) e33)) ?_
     rintro v0_34 _ ⟨W34, rfl, l34, ⟨_, rfl, f34_0⟩⟩
     refine Lw.wa hc29 rfl (Lw.m (vI x1) rfl (Lw.wa hc29 rfl ?_))
     obtain ⟨z37, e38, hm⟩ := ob hm
     refine Lw.t rfl (T.call rfl (p39 (K := [3])  f34_0.rd e38)) ?_
     rintro _ _ ⟨W39, rfl, l39, rfl⟩
     refine Lw.p hc29 (vB z37) rfl (Lw.g (vB z37) rfl (Lw.nil (⟨?_, ⟨z37, W39, rfl, (l12.trans (l19.trans (l26.trans (l34.trans l39)))), rfl, hm⟩⟩)))
     iterate 26 (refine .u ?_)
     exact Agree.refl _
    ·replace hm := bf hm hc29
     refine Lw.ps hc29 rfl (Lw.ps hc29 rfl (Lw.ps hc29 rfl (Lw.ps hc29 rfl (Lw.ps hc29 rfl (Lw.p hc29 (vB false) rfl (Lw.g (vB false) rfl (Lw.nil (⟨?_, ⟨false, W26, rfl, (l12.trans (l19.trans l26)), rfl, hm⟩⟩))))))))
     iterate 26 (refine .u ?_)
     exact Agree.refl _
   ·replace hm := bf hm hc22
    refine Lw.ps hc22 rfl (Lw.ps hc22 rfl (Lw.ps hc22 rfl (Lw.ps hc22 rfl (Lw.ps hc22 rfl (Lw.ps hc22 rfl (Lw.p hc22 (vB false) rfl (Lw.m (vB false) rfl (Lw.ps rfl rfl (Lw.ps rfl rfl (Lw.ps rfl rfl (Lw.ps rfl rfl (Lw.ps rfl rfl (Lw.p rfl (vB false) rfl (Lw.g (vB false) rfl (Lw.nil (⟨?_, ⟨false, W19, rfl, (l12.trans l19), rfl, hm⟩⟩))))))))))))))))
    iterate 26 (refine .u ?_)
    exact Agree.refl _
  ·replace hm := bf hm hc15
   refine Lw.ps hc15 rfl (Lw.ps hc15 rfl (Lw.ps hc15 rfl (Lw.ps hc15 rfl (Lw.ps hc15 rfl (Lw.ps hc15 rfl (Lw.p hc15 (vB false) rfl (Lw.m (vB false) rfl (Lw.ps rfl rfl (Lw.ps rfl rfl (Lw.ps rfl rfl (Lw.ps rfl rfl (Lw.ps rfl rfl (Lw.ps rfl rfl (Lw.p rfl (vB false) rfl (Lw.m (vB false) rfl (Lw.ps rfl rfl (Lw.ps rfl rfl (Lw.ps rfl rfl (Lw.ps rfl rfl (Lw.ps rfl rfl (Lw.p rfl (vB false) rfl (Lw.g (vB false) rfl (Lw.nil (⟨?_, ⟨false, W12, rfl, l12, rfl, hm⟩⟩))))))))))))))))))))))))
   iterate 26 (refine .u ?_)
   exact Agree.refl _

theorem p14 {W : CW} {K : List Nat} {x0 : Vm.Repo} {v0_0_ : Value} {v0_1_ : Value} {x1 : Int} {x2 : Int} {r : Bool} (h0 : Rd W K [v0_0_, v0_1_] x0) (hm : Vm.spec_AncIs x0 x1 x2 = some r) : CallR Tryz.prog 14 [.agg [v0_0_, v0_1_].toArray, vI x1, vI x2].toArray W.w (Res W [] fun W' v => v = vB r) :=
 (c14 (V := W.view K []) (h0.view _) hm).ad (fk 0) fun _ _ e => e

theorem c44 {V : CW} {x0 : List Bool} {v0_ : Value} {r : (List Int)} (h0 : Rd V [0] [v0_] x0) (hm : Vm.impl_listOf x0 = some r) : CallR Tryz.prog 44 [v0_].toArray V.w (Res V LL fun Wf v => ∃ (u0 : Value), v = u0 ∧ OwS Wf LL [] [u0] r) := by
 unfold Vm.impl_listOf at hm
 obtain ⟨W0, hW0⟩ : ∃ W, W = V := ⟨V, rfl⟩
 subst hW0
 refine CallR.of Tryz.func44 rfl rfl rfl rfl (Cw.seq (Cw.region (Lw.g (.slice none 0 0) rfl (Lw.nil (Cw.seq (Cw.region (Lw.g (.slice none 0 0) rfl (Lw.nil (Cw.seq (Cw.seq (Cw.region (Lw.m v0_ rfl (Lw.ln x0 h0 rfl (Lw.m (vI 0) rfl (Lw.nil (Cw.block ?_))))))))))))))))
 obtain ⟨K8, hK8, hm⟩ := jn_e hm
 refine Cw.loop 8 18 [3, 4, 5, 8] (fun m l w => ∃ (y1 : List Int) (y6 : Int) (v2 j4 j5 : Value) (W7 : CW), W7.w = w ∧ Le [2] W0 W7 ∧ l = [v2, j4, j5, vI y6] ∧ Ow W7 2 [] [v2] y1 ∧ Vm.impl_listOf_l1 x0 K8 m y1 y6 = some r) (((x0.length : Int) - 0).toNat + 1) ⟨([] : List Int), 0, .slice none 0 0, undef, undef, W0, rfl, Le.refl _ _, rfl, owN 2 [], hm⟩ ?_
 rintro m9 _ _ σ ⟨y1, y6, v2, j4, j5, W7, rfl, l7, rfl, o3, hm⟩
 obtain _ | m9 := m9
 ·cases hm
 unfold Vm.impl_listOf_l1 at hm
 have a10 := l7.s rfl
 refine Cw.seq (Cw.region (Lw.lt rfl (Lw.nil (Cw.seq (Cw.cond (b := decide ((y6 : Int) < ((x0.length : Int) : Int))) rfl (fun hc11 => ?_) (fun hc11 => ?_))))))
 ·replace hm := bt hm hc11
  refine Cw.skip ?_
  obtain ⟨K18, hK18, hm⟩ := jn_e hm
  refine Cw.join 10 17 [3, 4, 5] (fun l w => ∃ (y12 : List Int) (v13 j15 j16 : Value) (W17 : CW), W17.w = w ∧ Le [2] W7 W17 ∧ l = [v13, j15, j16] ∧ Ow W17 2 [] [v13] y12 ∧ K18 y12 = some r) ?_ ?_
  ·rintro _ _ σ ⟨y12, v13, j15, j16, W17, rfl, l17, rfl, o14, hm⟩
   rw [hK18] at hm
   refine Cw.region (Lw.add rfl (Lw.m (vI (w64 (y6 + 1))) rfl (Lw.nil (⟨?_, m9, Nat.lt_succ_self m9, ⟨y12, w64 (y6 + 1), v13, j15, j16, W17, rfl, (l7.trans l17), rfl, o14, hm⟩⟩))))
   iterate 5 (refine .u ?_)
   refine Agree.ov0 rfl ?_
   iterate 5 (refine .u ?_)
   exact Agree.base
  ·refine Cw.block (Cw.seq (Cw.region (Lw.m (vI y6) rfl ?_)))
   obtain ⟨u20, e21, hm⟩ := ob hm
   refine Lw.r rfl (R.ix (α := Bool) (h0.ul a10) e21 rfl rfl rfl) (Lw.r rfl (R.ld rfl rfl ((h0.ul a10).at_ e21).bool) (Lw.g (vI y6) rfl (Lw.g (vB u20) rfl (Lw.nil (Cw.seq (Cw.region (Lw.m (vB u20) rfl (Lw.nil (Cw.cond (b := u20) rfl (fun hc23 => ?_) (fun hc23 => ?_))))))))))
   ·replace hm := bt hm hc23
    refine Cw.region (Lw.m v2 rfl (Lw.m (vI y6) rfl (Lw.t rfl (T.bs 3 [vI y6] (cs := [vI y6]) rfl rfl (bsv rfl)) ?_)))
    rintro _ _ ⟨g24, W24, rfl, rfl, l24, b24⟩
    obtain ⟨q27, e28, hm⟩ := ob hm
    refine Lw.t rfl (T.app1S (α := Int) (K' := []) (o3.up l24 rfl) b24 (rdI _) rfl rfl e28) ?_
    rintro v29 _ ⟨W29, rfl, l29, o29⟩
    refine Lw.g v29 rfl (Lw.nil (⟨?_, ⟨q27, v29, vI y6, vB u20, W29, rfl, ((l24.sub rfl).trans l29), rfl, o29, hm⟩⟩))
    iterate 11 (refine .u ?_)
    exact Agree.refl _
   ·replace hm := bf hm hc23
    refine Cw.skip (⟨?_, ⟨y1, v2, vI y6, vB u20, W7, rfl, Le.refl _ _, rfl, o3, hm⟩⟩)
    iterate 6 (refine .u ?_)
    exact Agree.refl _
 ·replace hm := bf hm hc11
  refine Cw.exit ?_
  rw [hK8] at hm
  refine Cw.seq (Cw.region (Lw.m v2 rfl (Lw.g v2 rfl (Lw.nil ?_))))
  cases hm
  exact Cw.ret (ret1 rfl (Res.mk a10 ⟨v2, rfl, o3.s.sub rfl rfl⟩))

theorem p44 {W : CW} {K : List Nat} {x0 : List Bool} {v0_ : Value} {k0 : Nat} {r : (List Int)} (h0 : Rd W K [v0_] x0) (hm : Vm.impl_listOf x0 = some r) : CallR Tryz.prog 44 [v0_].toArray W.w (Res W [] fun W' v => ∃ (u0 : Value), v = u0 ∧ Ow W' k0 [] [u0] r) :=
 (c44 (V := W.view K []) (h0.view _) hm).ad (fk k0) fun _ _ ⟨u0, e, f0⟩ => ⟨u0, e, f0.back (fk_LL _)⟩

theorem c17 {V : CW} {x0 : Vm.Repo} {v0_0_ : Value} {v0_1_ : Value} {x1 : Int} {r : (List Int)} (h0 : Rd V [0] [v0_0_, v0_1_] x0) (h99 : Gl 0 V [0]) (hm : Vm.impl_AncAll x0 x1 = some r) : CallR Tryz.prog 17 [.agg [v0_0_, v0_1_].toArray, vI x1].toArray V.w (Res V LL fun Wf v => ∃ (u0 : Value), v = u0 ∧ OwS Wf LL [] [u0] r) := by
 unfold Vm.impl_AncAll at hm
 obtain ⟨w0_0, w0_1, he0, h0_0, h0_1⟩ := Repo.split h0
 simp only [List.cons.injEq, and_true, true_and] at he0
 obtain ⟨rfl, rfl⟩ := he0
 obtain ⟨W0, hW0⟩ : ∃ W, W = V := ⟨V, rfl⟩
 subst hW0
 refine CallR.of Tryz.func17 rfl rfl rfl rfl (Cw.seq (Cw.region (Lw.t rfl (T.box 2 (v := .agg [v0_0_, v0_1_].toArray) (cs := [v0_0_, v0_1_]) rfl rfl) ?_)))
 rintro _ _ ⟨g1, W1, rfl, rfl, l1, b1⟩
 have a2 := l1.o
 refine Lw.g (.slice none 0 0) rfl (Lw.nil (Cw.seq (Cw.seq (Cw.region (Lw.r rfl (R.lda (cs := [v0_0_, v0_1_]) b1.cells rfl rfl) (Lw.m (vI x1) rfl (Lw.t rfl (T.bsS (α := Int) (xs := [x1]) 3 [] (W := W1) [vI x1] (Each.cons ((rdI _)) Each.nil) rfl) ?_)))))))
 rintro v3 _ ⟨W3, rfl, l3, o3⟩
 have a4 := a2.n l3
 obtain ⟨z9, e10, hm⟩ := ob hm
 refine Lw.t rfl (T.call rfl (p37 (K := [0, 3])  ((Repo.rd (K := [0]) x0.Commits x0.Heads (h0_0.ul a4) (h0_1.ul a4)).sub (M := [0, 3]) rfl) (o3.rd.sub (M := [0, 3]) rfl) ((h99.ul a4).sub (M := [0, 3]) rfl) e10)) ?_
 rintro _ _ ⟨W11, rfl, l11, rfl⟩
 have a12 := a4.n l11
 refine Lw.r rfl (R.not rfl) (Lw.nil (Cw.cond (b := (!z9)) rfl (fun hc15 => ?_) (fun hc15 => ?_)))
 ·replace hm := bt hm hc15
  refine Cw.seq (Cw.region (Lw.g (.slice none 0 0) rfl (Lw.nil ?_)))
  cases hm
  exact Cw.ret (ret1 rfl (Res.mk a12 ⟨.slice none 0 0, rfl, (owsN []).sub rfl rfl⟩))
 ·replace hm := bf hm hc15
  refine Cw.skip (Cw.seq (Cw.region (Lw.r rfl (R.lda (cs := [v0_0_, v0_1_]) ((b1.up l3 rfl).up l11 rfl).cells rfl rfl) (Lw.m (vI x1) rfl ?_))))
  obtain ⟨z18, e19, hm⟩ := ob hm
  refine Lw.t rfl (T.call rfl (p38 (K := [0]) (k0 := 4) (Repo.rd (K := [0]) x0.Commits x0.Heads (h0_0.ul a12) (h0_1.ul a12)) e19)) ?_
  rintro v0_20 _ ⟨W20, rfl, l20, ⟨_, rfl, f20_0⟩⟩
  have a21 := a12.n l20
  obtain ⟨z24, e25, hm⟩ := ob hm
  refine Lw.t rfl (T.call rfl (p44 (K := [4]) (k0 := 5) f20_0.rd e25)) ?_
  rintro v0_26 _ ⟨W26, rfl, l26, ⟨_, rfl, f26_0⟩⟩
  have a27 := a21.n l26
  refine Lw.g v0_26 rfl (Lw.nil ?_)
  cases hm
  exact Cw.ret (ret1 rfl (Res.mk a27 ⟨v0_26, rfl, f26_0.s.sub rfl rfl⟩))

theorem p17 {W : CW} {K : List Nat} {x0 : Vm.Repo} {v0_0_ : Value} {v0_1_ : Value} {x1 : Int} {k0 : Nat} {r : (List Int)} (h0 : Rd W K [v0_0_, v0_1_] x0) (h99 : Gl 0 W K) (hm : Vm.impl_AncAll x0 x1 = some r) : CallR Tryz.prog 17 [.agg [v0_0_, v0_1_].toArray, vI x1].toArray W.w (Res W [] fun W' v => ∃ (u0 : Value), v = u0 ∧ Ow W' k0 [] [u0] r) :=
 (c17 (V := W.view K []) (h0.view _) (h99.view _) hm).ad (fk k0) fun _ _ ⟨u0, e, f0⟩ => ⟨u0, e, f0.back (fk_LL _)⟩

theorem c16 {V : CW} {x0 : List Int} {v0_ : Value} {x1 : Int} {r : Bool} (h0 : Rd V [0] [v0_] x0) (hm : Vm.laws_smIn x0 x1 = some r) : CallR Tryz.prog 16 [v0_, vI x1].toArray V.w (Res V LL fun Wf v => v = vB r) := by
 unfold Vm.laws_smIn at hm
 obtain ⟨W0, hW0⟩ : ∃ W, W = V := ⟨V, rfl⟩
 subst hW0
 refine CallR.of Tryz.func16 rfl rfl rfl rfl (Cw.seq (Cw.region (Lw.g (vB false) rfl (Lw.nil (Cw.seq (Cw.seq (Cw.region (Lw.g (vI 0) rfl (Lw.nil (Cw.block ?_))))))))))
 obtain ⟨K4, hK4, hm⟩ := jn_e hm
 refine Cw.loop 6 17 [4, 5] (fun m l w => ∃ (y1 : Bool) (y2 : Int) (W3 : CW), W3.w = w ∧ Le [] W0 W3 ∧ l = [vB y1, vI y2] ∧ Vm.laws_smIn_l1 x0 x1 K4 m y1 y2 = some r) (((x0.length : Int) - 0).toNat + 1) ⟨false, 0, W0, rfl, Le.refl _ _, rfl, hm⟩ ?_
 rintro m5 _ _ σ ⟨y1, y2, W3, rfl, l3, rfl, hm⟩
 obtain _ | m5 := m5
 ·cases hm
 unfold Vm.laws_smIn_l1 at hm
 have a6 := l3.o
 refine Cw.seq (Cw.seq (Cw.region ?_))
 have s7 := h0.ul a6
 refine Lw.m (vI y2) rfl (Lw.m v0_ rfl (Lw.ln x0 s7 rfl (Lw.lt rfl (Lw.nil (Cw.cond (b := decide ((y2 : Int) < ((x0.length : Int) : Int))) rfl (fun hc8 => ?_) (fun hc8 => ?_))))))
 ·replace hm := bt hm hc8
  refine Cw.skip (Cw.seq (Cw.block (Cw.seq (Cw.region (Lw.m v0_ rfl (Lw.m (vI y2) rfl ?_))))))
  obtain ⟨u9, e10, hm⟩ := ob hm
  refine Lw.r rfl (R.ix (α := Int) s7 e10 rfl rfl rfl) (Lw.r rfl (R.ld rfl rfl (s7.at_ e10).int) (Lw.m (vI x1) rfl (Lw.eq rfl (Lw.nil (Cw.cond (b := ((u9 : Int) == (x1 : Int))) rfl (fun hc11 => ?_) (fun hc11 => ?_))))))
  ·replace hm := bt hm hc11
   refine Cw.seq (Cw.region (Lw.g (vB true) rfl (Lw.nil ?_)))
   cases hm
   exact Cw.ret (ret1 rfl (Res.mk a6 rfl))
  ·replace hm := bf hm hc11
   refine Cw.skip (Cw.region (Lw.m (vI y2) rfl (Lw.add rfl (Lw.g (vI (w64 (y2 + 1))) rfl (Lw.nil (⟨?_, m5, Nat.lt_succ_self m5, ⟨y1, w64 (y2 + 1), W3, rfl, l3, rfl, hm⟩⟩))))))
   iterate 15 (refine .u ?_)
   exact Agree.base
 ·replace hm := bf hm hc8
  refine Cw.exit ?_
  rw [hK4] at hm
  refine Cw.seq (Cw.region (Lw.g (vB false) rfl (Lw.nil ?_)))
  cases hm
  exact Cw.ret (ret1 rfl (Res.mk a6 rfl))

theorem p16 {W : CW} {K : List Nat} {x0 : List Int} {v0_ : Value} {x1 : Int} {r : Bool} (h0 : Rd W K [v0_] x0) (hm : Vm.laws_smIn x0 x1 = some r) : CallR Tryz.prog 16 [v0_, vI x1].toArray W.w (Res W [] fun W' v => v = vB r) :=
 (c16 (V := W.view K []) (h0.view _) hm).ad (fk 0) fun _ _ e => e

theorem c4 {V : CW} {x0 : List Byte} {v0_ : Value} {x1 : List Byte} {v1_ : Value} {r : Bool} (h0 : Rd V [0] [v0_] x0) (h1 : Rd V [0] [v1_] x1) (h99 : Gl 0 V [0]) (hm : Vm.laws_FnAncIs x0 x1 = some r) : CallR Tryz.prog 4 [v0_, v1_].toArray V.w (Res V LL fun Wf v => v = vB r) := by
 unfold Vm.laws_FnAncIs at hm
 obtain ⟨W0, hW0⟩ : ∃ W, W = V := ⟨V, rfl⟩
 subst hW0
 refine CallR.of Tryz.func4 rfl rfl rfl rfl (Cw.seq (Cw.region (Lw.g (vB false) rfl (Lw.nil (Cw.seq ?_)))))
 obtain ⟨K3, hK3, hm⟩ := jn_e hm
 refine Cw.join 10 17 [17] (fun l w => ∃ (y1 : Bool) (W2 : CW), W2.w = w ∧ Le [] W0 W2 ∧ l = [vB y1] ∧ K3 y1 = some r) ?_ ?_
 ·rintro _ _ σ ⟨y1, W2, rfl, l2, rfl, hm⟩
  rw [hK3] at hm
  have a4 := l2.o
  refine Cw.cond (b := y1) rfl (fun hc5 => ?_) (fun hc5 => ?_)
  ·replace hm := bt hm hc5
   refine Cw.seq (Cw.region (Lw.g (vB true) rfl (Lw.nil ?_)))
   cases hm
   exact Cw.ret (ret1 rfl (Res.mk a4 rfl))
  ·replace hm := bf hm hc5
   refine Cw.skip (Cw.seq (Cw.region (Lw.m v0_ rfl ?_)))
   obtain ⟨z7, e8, hm⟩ := ob hm
   refine Lw.t rfl (T.call rfl (p12 (K := [0]) (k0 := 2) (k1 := 3) (h0.ul a4) e8)) ?_
   rintro _ _ ⟨W9, rfl, l9, ⟨v0_0_9, v0_1_9, rfl, f9_0, f9_1⟩⟩
   have a10 := a4.n l9
   refine Lw.m (.tuple [.agg [v0_0_9, v0_1_9].toArray, vI z7.2.1, vI z7.2.2].toArray) rfl (Lw.r rfl (R.ext (vs := [.agg [v0_0_9, v0_1_9].toArray, vI z7.2.1, vI z7.2.2]) (v := .agg [v0_0_9, v0_1_9].toArray) rfl rfl) (Lw.r rfl (R.ext (vs := [.agg [v0_0_9, v0_1_9].toArray, vI z7.2.1, vI z7.2.2]) (v := vI z7.2.1) rfl rfl) (Lw.r rfl (R.ext (vs := [.agg [v0_0_9, v0_1_9].toArray, vI z7.2.1, vI z7.2.2]) (v := vI z7.2.2) rfl rfl) (Lw.t rfl (T.alloc 4 (cs := [.slice none 0 0, .slice none 0 0]) rfl) ?_))))
   rintro _ _ ⟨g11, W11, rfl, rfl, l11, b11⟩
   have a12 := a10.n l11
   refine Lw.u (T.sta (vs := [v0_0_9, v0_1_9]) b11 rfl rfl (oc_cons (f9_0.up l11 rfl).oc (oc_cons (f9_1.up l11 rfl).oc oc_nil)) rfl rfl) ?_
   rintro _ _ ⟨W15, rfl, l15, b15⟩
   have a16 := a12.t l15 rfl
   have o17 := (f9_0.up l11 rfl).up l15 rfl
   have o18 := (f9_1.up l11 rfl).up l15 rfl
   refine Lw.g (vI z7.2.1) rfl (Lw.g (vI z7.2.2) rfl (Lw.nil (Cw.seq (Cw.region (Lw.r rfl (R.lda (cs := [v0_0_9, v0_1_9]) b15.cells rfl rfl) (Lw.m (vI z7.2.1) rfl (Lw.m (vI z7.2.2) rfl ?_)))))))
   obtain ⟨z20, e21, hm⟩ := ob hm
   refine Lw.t rfl (T.call rfl (p13 (K := [0, 2, 3])  (x0 := (Vm.Repo.mk z7.1.Commits z7.1.Heads)) ((Repo.rd (K := [2, 3]) z7.1.Commits z7.1.Heads (o17.rd.sub (M := [2, 3]) rfl) (o18.rd.sub (M := [2, 3]) rfl)).sub (M := [0, 2, 3]) rfl) ((h99.ul a16).sub (M := [0, 2, 3]) rfl) e21)) ?_
   rintro _ _ ⟨W22, rfl, l22, rfl⟩
   have a23 := a16.n l22
   have o24 := o17.up l22 rfl
   have o25 := o18.up l22 rfl
   have b26 := b15.up l22 rfl
   refine Lw.g (vB z20) rfl (Lw.nil (Cw.seq ?_))
   obtain ⟨K29, hK29, hm⟩ := jn_e hm
   refine Cw.join 28 66 [66] (fun l w => ∃ (y27 : Bool) (W28 : CW), W28.w = w ∧ Le [] W22 W28 ∧ l = [vB y27] ∧ K29 y27 = some r) ?_ ?_
   ·rintro _ _ σ ⟨y27, W28, rfl, l28, rfl, hm⟩
    rw [hK29] at hm
    have a30 := a23.n l28
    have o31 := o24.up l28 rfl
    have o32 := o25.up l28 rfl
    have b33 := b26.up l28 rfl
    refine Cw.cond (b := y27) rfl (fun hc34 => ?_) (fun hc34 => ?_)
    ·replace hm := bt hm hc34
     refine Cw.seq (Cw.region (Lw.m (vB z20) rfl (Lw.r rfl (R.lda (cs := [v0_0_9, v0_1_9]) b33.cells rfl rfl) (Lw.m (vI z7.2.1) rfl (Lw.m (vI z7.2.2) rfl ?_)))))
     obtain ⟨z35, e36, hm⟩ := ob hm
     refine Lw.t rfl (T.call rfl (p14 (K := [2, 3])  (x0 := (Vm.Repo.mk z7.1.Commits z7.1.Heads)) (Repo.rd (K := [2, 3]) z7.1.Commits z7.1.Heads (o31.rd.sub (M := [2, 3]) rfl) (o32.rd.sub (M := [2, 3]) rfl)) e36)) ?_
     rintro _ _ ⟨W37, rfl, l37, rfl⟩
     have a38 := a30.n l37
     refine Lw.r rfl (R.beq rfl rfl) (Lw.g (vB (z20 == z35)) rfl (Lw.nil ?_))
     cases hm
     exact Cw.ret (ret1 rfl (Res.mk a38 rfl))
    ·replace hm := bf hm hc34
     refine Cw.skip (Cw.seq (Cw.region (Lw.m v1_ rfl (Lw.ln x1 (h1.ul a30) rfl (Lw.fa rfl (Lw.r rfl (R.ld (v := v0_0_9) rfl rfl (b33.cell rfl)) (Lw.ln z7.1.Commits o31.rd rfl ?_)))))))
     obtain ⟨_, e43, hm⟩ := ob hm
     refine Lw.r rfl (R.rem rfl rfl (nz e43)) (Lw.g (vI (Int.tmod (x1.length : Int) (z7.1.Commits.length : Int))) rfl (Lw.nil ?_))
     obtain ⟨K46, hK46, hm⟩ := jn_e hm
     refine Cw.join 79 133 [4] (fun l w => ∃ (y44 : Bool) (W45 : CW), W45.w = w ∧ Le [] W28 W45 ∧ l = [vB y44] ∧ K46 y44 = some r) ?_ ?_
     ·rintro _ _ σ ⟨y44, W45, rfl, l45, rfl, hm⟩
      rw [hK46] at hm
      have a47 := a30.n l45
      cases hm
      exact Cw.ret (ret1 rfl (Res.mk a47 rfl))
     ·refine Cw.region (Lw.m (vB z20) rfl (Lw.r rfl (R.lda (cs := [v0_0_9, v0_1_9]) b33.cells rfl rfl) (Lw.m (vI z7.2.2) rfl ?_)))
      obtain ⟨z52, e53, hm⟩ := ob hm
      refine Lw.t rfl (T.call rfl (p17 (K := [0, 2, 3]) (k0 := 5) (x0 := (Vm.Repo.mk z7.1.Commits z7.1.Heads)) ((Repo.rd (K := [2, 3]) z7.1.Commits z7.1.Heads (o31.rd.sub (M := [2, 3]) rfl) (o32.rd.sub (M := [2, 3]) rfl)).sub (M := [0, 2, 3]) rfl) ((h99.ul a30).sub (M := [0, 2, 3]) rfl) e53)) ?_
      rintro v0_54 _ ⟨W54, rfl, l54, ⟨_, rfl, f54_0⟩⟩
      have a55 := a30.n l54
      refine Lw.m (vI z7.2.1) rfl ?_
      obtain ⟨z59, e60, hm⟩ := ob hm
      refine Lw.t rfl (T.call rfl (p16 (K := [5])  f54_0.rd e60)) ?_
      rintro _ _ ⟨W61, rfl, l61, rfl⟩
      have a62 := a55.n l61
      have o63 := (o31.up l54 rfl).up l61 rfl
      have o64 := (o32.up l54 rfl).up l61 rfl
      have b66 := (b33.up l54 rfl).up l61 rfl
      refine Lw.r rfl (R.beq rfl rfl) (Lw.m (vB (z20 == z59)) rfl (bsplit (z20 == z59) (fun hc67 => ?_) (fun hc67 => ?_)))
      ·replace hm := bt hm hc67
       refine Lw.wa hc67 rfl (Lw.m (vB z20) rfl (Lw.wa hc67 rfl (Lw.r rfl (R.not rfl) (Lw.wa hc67 rfl (Lw.m (vB (!z20)) rfl (bsplit (!z20) (fun hc68 => ?_) (fun hc68 => ?_)))))))
       ·replace hm := bt hm hc68
        refine Lw.ps hc68 rfl (Lw.ps hc68 rfl (Lw.ps hc68 rfl (Lw.wa hc67 rfl (Lw.p hc68 (vB true) rfl (Lw.p hc67 (vB true) rfl (Lw.m (vB true) rfl (Lw.wa rfl rfl (Lw.m (vB z20) rfl (Lw.wa rfl rfl (Lw.r rfl (R.not rfl) (Lw.wa rfl rfl (Lw.m (vB (!z20)) rfl (Lw.ps hc68 rfl (Lw.ps hc68 rfl (Lw.ps hc68 rfl (Lw.ps hc68 rfl (Lw.ps hc68 rfl (Lw.wa rfl rfl (Lw.p hc68 (vB true) rfl (Lw.wa rfl rfl (Lw.m (vB true) rfl (Lw.ps rfl rfl (Lw.ps rfl rfl (Lw.ps rfl rfl (Lw.ps rfl rfl (Lw.wa rfl rfl (Lw.p rfl (vB true) rfl (Lw.p rfl (vB true) rfl (Lw.m (vB true) rfl (Lw.wa rfl rfl (Lw.r rfl (R.lda (cs := [v0_0_9, v0_1_9]) b66.cells rfl rfl) (Lw.wa rfl rfl (Lw.m (vI z7.2.1) rfl (Lw.wa rfl rfl (Lw.m (vI z7.2.1) rfl (Lw.wa rfl rfl ?_))))))))))))))))))))))))))))))))))))
        obtain ⟨z70, e71, hm⟩ := ob hm
        refine Lw.t rfl (T.call rfl (p13 (K := [0, 2, 3])  (x0 := (Vm.Repo.mk z7.1.Commits z7.1.Heads)) ((Repo.rd (K := [2, 3]) z7.1.Commits z7.1.Heads (o63.rd.sub (M := [2, 3]) rfl) (o64.rd.sub (M := [2, 3]) rfl)).sub (M := [0, 2, 3]) rfl) ((h99.ul a62).sub (M := [0, 2, 3]) rfl) e71)) ?_
        rintro _ _ ⟨W72, rfl, l72, rfl⟩
        refine Lw.p rfl (vB z70) rfl (Lw.m (vB z70) rfl (bsplit z70 (fun hc78 => ?_) (fun hc78 => ?_)))
        ·replace hm := bt hm hc78
         refine Lw.wa hc78 rfl (Lw.m (vB z20) rfl (Lw.wa hc78 rfl (Lw.r rfl (R.not rfl) (Lw.wa hc78 rfl (Lw.m (vB (!z20)) rfl (Lw.ps hc68 rfl (Lw.ps hc68 rfl (Lw.ps hc68 rfl (Lw.ps hc68 rfl (Lw.ps hc68 rfl (Lw.wa hc78 rfl (Lw.p hc68 (vB true) rfl (Lw.wa hc78 rfl (Lw.m (vB true) rfl (Lw.ps rfl rfl (Lw.ps rfl rfl (Lw.ps rfl rfl (Lw.wa hc78 rfl (Lw.p rfl (vB true) rfl (Lw.p hc78 (vB true) rfl (Lw.g (vB true) rfl (Lw.nil (⟨?_, ⟨true, W72, rfl, (l54.trans (l61.trans l72)), rfl, hm⟩⟩)))))))))))))))))))))))
         iterate 56 (refine .u ?_)
         exact Agree.refl _
        ·replace hm := bf hm hc78
         refine Lw.ps hc78 rfl (Lw.ps hc78 rfl (Lw.ps hc78 rfl (Lw.pu rfl (Lw.pu rfl (Lw.pu rfl (Lw.pu rfl (Lw.pu rfl (Lw.ps hc78 rfl (Lw.ps hc78 rfl (Lw.pu rfl (Lw.pu rfl (Lw.pu rfl (Lw.ps hc78 rfl (Lw.p hc78 (vB false) rfl (Lw.g (vB false) rfl (Lw.nil (⟨?_, ⟨false, W72, rfl, (l54.trans (l61.trans l72)), rfl, hm⟩⟩)))))))))))))))))
         iterate 56 (refine .u ?_)
         exact Agree.refl _
       ·replace hm := bf hm hc68
        refine Lw.wa hc68 rfl (Lw.m (vI z7.2.1) rfl (Lw.wa hc68 rfl (Lw.m (vI z7.2.2) rfl (Lw.wa hc68 rfl (Lw.le rfl (Lw.wa hc67 rfl (Lw.p hc68 (vB (decide ((z7.2.1 : Int) ≤ (z7.2.2 : Int)))) rfl (Lw.p hc67 (vB (decide ((z7.2.1 : Int) ≤ (z7.2.2 : Int)))) rfl (Lw.m (vB (decide ((z7.2.1 : Int) ≤ (z7.2.2 : Int)))) rfl (bsplit (decide ((z7.2.1 : Int) ≤ (z7.2.2 : Int))) (fun hc79 => ?_) (fun hc79 => ?_)))))))))))
        ·replace hm := bt hm hc79
         refine Lw.wa hc79 rfl (Lw.m (vB z20) rfl (Lw.wa hc79 rfl (Lw.r rfl (R.not rfl) (Lw.wa hc79 rfl (Lw.m (vB (!z20)) rfl (Lw.wa hc68 rfl (Lw.r rfl (R.lda (cs := [v0_0_9, v0_1_9]) b66.cells rfl rfl) (Lw.wa hc68 rfl (Lw.m (vI z7.2.2) rfl (Lw.wa hc68 rfl (Lw.m (vI (Int.tmod (x1.length : Int) (z7.1.Commits.length : Int))) rfl (Lw.wa hc68 rfl ?_))))))))))))
         obtain ⟨z81, e82, hm⟩ := ob hm
         refine Lw.t rfl (T.call rfl (p13 (K := [0, 2, 3])  (x0 := (Vm.Repo.mk z7.1.Commits z7.1.Heads)) ((Repo.rd (K := [2, 3]) z7.1.Commits z7.1.Heads (o63.rd.sub (M := [2, 3]) rfl) (o64.rd.sub (M := [2, 3]) rfl)).sub (M := [0, 2, 3]) rfl) ((h99.ul a62).sub (M := [0, 2, 3]) rfl) e82)) ?_
         rintro _ _ ⟨W83, rfl, l83, rfl⟩
         have a84 := a62.n l83
         have o85 := o63.up l83 rfl
         have o86 := o64.up l83 rfl
         have b88 := b66.up l83 rfl
         refine Lw.wa hc68 rfl (Lw.r rfl (R.not rfl) (Lw.wa hc79 rfl (Lw.p hc68 (vB (!z81)) rfl (Lw.wa hc79 rfl (Lw.m (vB (!z81)) rfl (bsplit (!z81) (fun hc89 => ?_) (fun hc89 => ?_)))))))
         ·replace hm := bt hm hc89
          refine Lw.ps hc89 rfl (Lw.ps hc89 rfl (Lw.ps hc89 rfl (Lw.ps hc89 rfl (Lw.wa hc79 rfl (Lw.p hc89 (vB true) rfl (Lw.p hc79 (vB true) rfl (Lw.m (vB true) rfl (Lw.wa rfl rfl (Lw.r rfl (R.lda (cs := [v0_0_9, v0_1_9]) b88.cells rfl rfl) (Lw.wa rfl rfl (Lw.m (vI z7.2.1) rfl (Lw.wa rfl rfl (Lw.m (vI z7.2.1) rfl (Lw.wa rfl rfl ?_))))))))))))))
          obtain ⟨z91, e92, hm⟩ := ob hm
          refine Lw.t rfl (T.call rfl (p13 (K := [0, 2, 3])  (x0 := (Vm.Repo.mk z7.1.Commits z7.1.Heads)) ((Repo.rd (K := [2, 3]) z7.1.Commits z7.1.Heads (o85.rd.sub (M := [2, 3]) rfl) (o86.rd.sub (M := [2, 3]) rfl)).sub (M := [0, 2, 3]) rfl) ((h99.ul a84).sub (M := [0, 2, 3]) rfl) e92)) ?_
          rintro _ _ ⟨W93, rfl, l93, rfl⟩
          have a94 := a84.n l93
          refine Lw.p rfl (vB z91) rfl (Lw.m (vB z91) rfl (bsplit z91 (fun hc99 => ?_) (fun hc99 => ?_)))
          ·replace hm := bt hm hc99
           refine Lw.wa hc99 rfl (Lw.m (vB z20) rfl (Lw.wa hc99 rfl (Lw.r rfl (R.not rfl) (Lw.wa hc99 rfl (Lw.m (vB (!z20)) rfl (Lw.wa hc68 rfl (Lw.r rfl (R.lda (cs := [v0_0_9, v0_1_9]) (b88.up l93 rfl).cells rfl rfl) (Lw.wa hc68 rfl (Lw.m (vI z7.2.2) rfl (Lw.wa hc68 rfl (Lw.m (vI z7.2.1) rfl (Lw.wa hc68 rfl ?_))))))))))))
           obtain ⟨z101, e102, hm⟩ := ob hm
           refine Lw.t rfl (T.call rfl (p13 (K := [0, 2, 3])  (x0 := (Vm.Repo.mk z7.1.Commits z7.1.Heads)) ((Repo.rd (K := [2, 3]) z7.1.Commits z7.1.Heads ((o85.up l93 rfl).rd.sub (M := [2, 3]) rfl) ((o86.up l93 rfl).rd.sub (M := [2, 3]) rfl)).sub (M := [0, 2, 3]) rfl) ((h99.ul a94).sub (M := [0, 2, 3]) rfl) e102)) ?_
           rintro _ _ ⟨W103, rfl, l103, rfl⟩
           refine Lw.wa hc68 rfl (Lw.r rfl (R.not rfl) (Lw.wa hc99 rfl (Lw.p hc68 (vB (!z101)) rfl (Lw.wa hc99 rfl (Lw.m (vB (!z101)) rfl (bsplit (!z101) (fun hc109 => ?_) (fun hc109 => ?_)))))))
           ·replace hm := bt hm hc109
            refine Lw.ps hc109 rfl (Lw.ps hc109 rfl (Lw.ps hc109 rfl (Lw.wa hc99 rfl (Lw.p hc109 (vB true) rfl (Lw.p hc99 (vB true) rfl (Lw.g (vB true) rfl (Lw.nil (⟨?_, ⟨true, W103, rfl, (l54.trans (l61.trans (l83.trans (l93.trans l103)))), rfl, hm⟩⟩))))))))
            iterate 56 (refine .u ?_)
            exact Agree.refl _
           ·replace hm := bf hm hc109
            refine Lw.wa hc109 rfl (Lw.m (vI z7.2.1) rfl (Lw.wa hc109 rfl (Lw.m (vI z7.2.2) rfl (Lw.wa hc109 rfl (Lw.eq rfl (Lw.wa hc99 rfl (Lw.p hc109 (vB ((z7.2.1 : Int) == (z7.2.2 : Int))) rfl (Lw.p hc99 (vB ((z7.2.1 : Int) == (z7.2.2 : Int))) rfl (Lw.g (vB ((z7.2.1 : Int) == (z7.2.2 : Int))) rfl (Lw.nil (⟨?_, ⟨((z7.2.1 : Int) == (z7.2.2 : Int)), W103, rfl, (l54.trans (l61.trans (l83.trans (l93.trans l103)))), rfl, hm⟩⟩)))))))))))
            iterate 56 (refine .u ?_)
            exact Agree.refl _
          ·replace hm := bf hm hc99
           refine Lw.ps hc99 rfl (Lw.ps hc99 rfl (Lw.ps hc99 rfl (Lw.pu rfl (Lw.pu rfl (Lw.pu rfl (Lw.pu rfl (Lw.pu rfl (Lw.ps hc99 rfl (Lw.ps hc99 rfl (Lw.pu rfl (Lw.pu rfl (Lw.pu rfl (Lw.ps hc99 rfl (Lw.p hc99 (vB false) rfl (Lw.g (vB false) rfl (Lw.nil (⟨?_, ⟨false, W93, rfl, (l54.trans (l61.trans (l83.trans l93))), rfl, hm⟩⟩)))))))))))))))))
           iterate 56 (refine .u ?_)
           exact Agree.refl _
         ·replace hm := bf hm hc89
          refine Lw.wa hc89 rfl (Lw.r rfl (R.lda (cs := [v0_0_9, v0_1_9]) b88.cells rfl rfl) (Lw.wa hc89 rfl (Lw.m (vI z7.2.1) rfl (Lw.wa hc89 rfl (Lw.m (vI (Int.tmod (x1.length : Int) (z7.1.Commits.length : Int))) rfl (Lw.wa hc89 rfl ?_))))))
          obtain ⟨z111, e112, hm⟩ := ob hm
          refine Lw.t rfl (T.call rfl (p13 (K := [0, 2, 3])  (x0 := (Vm.Repo.mk z7.1.Commits z7.1.Heads)) ((Repo.rd (K := [2, 3]) z7.1.Commits z7.1.Heads (o85.rd.sub (M := [2, 3]) rfl) (o86.rd.sub (M := [2, 3]) rfl)).sub (M := [0, 2, 3]) rfl) ((h99.ul a84).sub (M := [0, 2, 3]) rfl) e112)) ?_
          rintro _ _ ⟨W113, rfl, l113, rfl⟩
          have a114 := a84.n l113
          refine Lw.wa hc79 rfl (Lw.p hc89 (vB z111) rfl (Lw.p hc79 (vB z111) rfl (Lw.m (vB z111) rfl (bsplit z111 (fun hc119 => ?_) (fun hc119 => ?_)))))
          ·replace hm := bt hm hc119
           refine Lw.wa hc119 rfl (Lw.r rfl (R.lda (cs := [v0_0_9, v0_1_9]) (b88.up l113 rfl).cells rfl rfl) (Lw.wa hc119 rfl (Lw.m (vI z7.2.1) rfl (Lw.wa hc119 rfl (Lw.m (vI z7.2.1) rfl (Lw.wa hc119 rfl ?_))))))
           obtain ⟨z121, e122, hm⟩ := ob hm
           refine Lw.t rfl (T.call rfl (p13 (K := [0, 2, 3])  (x0 := (Vm.Repo.mk z7.1.Commits z7.1.Heads)) ((Repo.rd (K := [2, 3]) z7.1.Commits z7.1.Heads ((o85.up l113 rfl).rd.sub (M := [2, 3]) rfl) ((o86.up l113 rfl).rd.sub (M := [2, 3]) rfl)).sub (M := [0, 2, 3]) rfl) ((h99.ul a114).sub (M := [0, 2, 3]) rfl) e122)) ?_
           rintro _ _ ⟨W123, rfl, l123, rfl⟩
           have a124 := a114.n l123
           refine Lw.p hc119 (vB z121) rfl (Lw.m (vB z121) rfl (bsplit z121 (fun hc129 => ?_) (fun hc129 => ?_)))
           ·replace hm := bt hm hc129
            refine Lw.wa hc129 rfl (Lw.m (vB z20) rfl (Lw.wa hc129 rfl (Lw.r rfl (R.not rfl) (Lw.wa hc129 rfl (Lw.m (vB (!z20)) rfl (Lw.wa hc68 rfl (Lw.r rfl (R.lda (cs := [v0_0_9, v0_1_9]) ((b88.up l113 rfl).up l123 rfl).cells rfl rfl) (Lw.wa hc68 rfl (Lw.m (vI z7.2.2) rfl (Lw.wa hc68 rfl (Lw.m (vI z7.2.1) rfl (Lw.wa hc68 rfl ?_))))))))))))
            obtain ⟨z131, e132, hm⟩ := ob hm
            refine Lw.t rfl (T.call rfl (p13 (K := [0, 2, 3])  (x0 := (Vm.Repo.mk z7.1.Commits z7.1.Heads)) ((Repo.rd (K := [2, 3]) z7.1.Commits z7.1.Heads (((o85.up l113 rfl).up l123 rfl).rd.sub (M := [2, 3]) rfl) (((o86.up l113 rfl).up l123 rfl).rd.sub (M := [2, 3]) rfl)).sub (M := [0, 2, 3]) rfl) ((h99.ul a124).sub (M := [0, 2, 3]) rfl) e132)) ?_
            rintro _ _ ⟨W133, rfl, l133, rfl⟩
            refine Lw.wa hc68 rfl (Lw.r rfl (R.not rfl) (Lw.wa hc129 rfl (Lw.p hc68 (vB (!z131)) rfl (Lw.wa hc129 rfl (Lw.m (vB (!z131)) rfl (bsplit (!z131) (fun hc139 => ?_) (fun hc139 => ?_)))))))
            ·replace hm := bt hm hc139
             refine Lw.ps hc139 rfl (Lw.ps hc139 rfl (Lw.ps hc139 rfl (Lw.wa hc129 rfl (Lw.p hc139 (vB true) rfl (Lw.p hc129 (vB true) rfl (Lw.g (vB true) rfl (Lw.nil (⟨?_, ⟨true, W133, rfl, (l54.trans (l61.trans (l83.trans (l113.trans (l123.trans l133))))), rfl, hm⟩⟩))))))))
             iterate 56 (refine .u ?_)
             exact Agree.refl _
            ·replace hm := bf hm hc139
             refine Lw.wa hc139 rfl (Lw.m (vI z7.2.1) rfl (Lw.wa hc139 rfl (Lw.m (vI z7.2.2) rfl (Lw.wa hc139 rfl (Lw.eq rfl (Lw.wa hc129 rfl (Lw.p hc139 (vB ((z7.2.1 : Int) == (z7.2.2 : Int))) rfl (Lw.p hc129 (vB ((z7.2.1 : Int) == (z7.2.2 : Int))) rfl (Lw.g (vB ((z7.2.1 : Int) == (z7.2.2 : Int))) rfl (Lw.nil (⟨?_, ⟨((z7.2.1 : Int) == (z7.2.2 : Int)), W133, rfl, (l54.trans (l61.trans (l83.trans (l113.trans (l123.trans l133))))), rfl, hm⟩⟩)))))))))))
             iterate 56 (refine .u ?_)
             exact Agree.refl _
           ·replace hm := bf hm hc129
            refine Lw.ps hc129 rfl (Lw.ps hc129 rfl (Lw.ps hc129 rfl (Lw.pu rfl (Lw.pu rfl (Lw.pu rfl (Lw.pu rfl (Lw.pu rfl (Lw.ps hc129 rfl (Lw.ps hc129 rfl (Lw.pu rfl (Lw.pu rfl (Lw.pu rfl (Lw.ps hc129 rfl (Lw.p hc129 (vB false) rfl (Lw.g (vB false) rfl (Lw.nil (⟨?_, ⟨false, W123, rfl, (l54.trans (l61.trans (l83.trans (l113.trans l123)))), rfl, hm⟩⟩)))))))))))))))))
            iterate 56 (refine .u ?_)
            exact Agree.refl _
          ·replace hm := bf hm hc119
           refine Lw.ps hc119 rfl (Lw.ps hc119 rfl (Lw.ps hc119 rfl (Lw.ps hc119 rfl (Lw.p hc119 (vB false) rfl (Lw.m (vB false) rfl (Lw.ps rfl rfl (Lw.ps rfl rfl (Lw.ps rfl rfl (Lw.pu rfl (Lw.pu rfl (Lw.pu rfl (Lw.pu rfl (Lw.pu rfl (Lw.ps rfl rfl (Lw.ps rfl rfl (Lw.pu rfl (Lw.pu rfl (Lw.pu rfl (Lw.ps rfl rfl (Lw.p rfl (vB false) rfl (Lw.g (vB false) rfl (Lw.nil (⟨?_, ⟨false, W113, rfl, (l54.trans (l61.trans (l83.trans l113))), rfl, hm⟩⟩)))))))))))))))))))))))
           iterate 56 (refine .u ?_)
           exact Agree.refl _
        ·replace hm := bf hm hc79
         refine Lw.ps hc79 rfl (Lw.ps hc79 rfl (Lw.ps hc79 rfl (Lw.pu rfl (Lw.pu rfl (Lw.pu rfl (Lw.pu rfl (Lw.pu rfl (Lw.ps hc79 rfl (Lw.ps hc79 rfl (Lw.pu rfl (Lw.pu rfl (Lw.pu rfl (Lw.pu rfl (Lw.ps hc79 rfl (Lw.p hc79 (vB false) rfl (Lw.m (vB false) rfl (Lw.ps rfl rfl (Lw.ps rfl rfl (Lw.ps rfl rfl (Lw.ps rfl rfl (Lw.p rfl (vB false) rfl (Lw.m (vB false) rfl (Lw.ps rfl rfl (Lw.ps rfl rfl (Lw.ps rfl rfl (Lw.pu rfl (Lw.pu rfl (Lw.pu rfl (Lw.pu rfl (Lw.pu rfl (Lw.ps rfl rfl (Lw.ps rfl rfl (Lw.pu rfl (Lw.pu rfl (Lw.pu rfl (Lw.ps rfl rfl (Lw.p rfl (vB false) rfl (Lw.g (vB false) rfl (Lw.nil ?_)))))))))))))))))))))))))))))))))))))))
         refine ⟨?_, ⟨false, W61, rfl, (l54.trans l61), rfl, hm⟩⟩
         iterate 56 (refine .u ?_)
         exact Agree.refl _
      ·replace hm := bf hm hc67
       refine Lw.ps hc67 rfl (Lw.ps hc67 rfl (Lw.ps hc67 rfl (Lw.pu rfl (Lw.pu rfl (Lw.pu rfl (Lw.ps hc67 rfl (Lw.p hc67 (vB false) rfl (Lw.m (vB false) rfl (Lw.ps rfl rfl (Lw.ps rfl rfl (Lw.ps rfl rfl (Lw.pu rfl (Lw.pu rfl (Lw.pu rfl (Lw.pu rfl (Lw.pu rfl (Lw.ps rfl rfl (Lw.ps rfl rfl (Lw.pu rfl (Lw.pu rfl (Lw.pu rfl (Lw.pu rfl (Lw.ps rfl rfl (Lw.p rfl (vB false) rfl (Lw.m (vB false) rfl (Lw.ps rfl rfl (Lw.ps rfl rfl (Lw.ps rfl rfl (Lw.ps rfl rfl (Lw.p rfl (vB false) rfl (Lw.m (vB false) rfl (Lw.ps rfl rfl (Lw.ps rfl rfl (Lw.ps rfl rfl (Lw.pu rfl (Lw.pu rfl (Lw.pu rfl (Lw.pu rfl ?_))))))))))))))))))))))))))))))))))))))
       refine Lw.pu rfl (Lw.ps rfl rfl (Lw.ps rfl rfl (Lw.pu rfl (Lw.pu rfl (Lw.pu rfl (Lw.ps rfl rfl (Lw.p rfl (vB false) rfl (Lw.g (vB false) rfl (Lw.nil (⟨?_, ⟨false, W61, rfl, (l54.trans l61), rfl, hm⟩⟩))))))))))
       iterate 56 (refine .u ?_)
       exact Agree.refl _
   ·refine Cw.region (Lw.m (vB z20) rfl (Lw.r rfl (R.lda (cs := [v0_0_9, v0_1_9]) b26.cells rfl rfl) (Lw.m (vI z7.2.1) rfl (Lw.m (vI z7.2.2) rfl ?_))))
    obtain ⟨z140, e141, hm⟩ := ob hm
    refine Lw.t rfl (T.call rfl (p14 (K := [2, 3])  (x0 := (Vm.Repo.mk z7.1.Commits z7.1.Heads)) (Repo.rd (K := [2, 3]) z7.1.Commits z7.1.Heads (o24.rd.sub (M := [2, 3]) rfl) (o25.rd.sub (M := [2, 3]) rfl)) e141)) ?_
    rintro _ _ ⟨W142, rfl, l142, rfl⟩
    have a143 := a23.n l142
    refine Lw.r rfl (R.bne rfl rfl) (Lw.m (vB (z20 != z140)) rfl (bsplit (z20 != z140) (fun hc147 => ?_) (fun hc147 => ?_)))
    ·replace hm := bt hm hc147
     refine Lw.ps hc147 rfl (Lw.ps hc147 rfl (Lw.ps hc147 rfl (Lw.p hc147 (vB true) rfl (Lw.m (vB true) rfl (Lw.ps rfl rfl (Lw.ps rfl rfl (Lw.ps rfl rfl (Lw.ps rfl rfl (Lw.p rfl (vB true) rfl (Lw.m (vB true) rfl (Lw.ps rfl rfl (Lw.ps rfl rfl (Lw.p rfl (vB true) rfl (Lw.m (vB true) rfl (Lw.ps rfl rfl (Lw.ps rfl rfl (Lw.p rfl (vB true) rfl (Lw.m (vB true) rfl (Lw.ps rfl rfl (Lw.ps rfl rfl (Lw.ps rfl rfl (Lw.ps rfl rfl (Lw.ps rfl rfl (Lw.p rfl (vB true) rfl (Lw.m (vB true) rfl (Lw.ps rfl rfl (Lw.ps rfl rfl (Lw.ps rfl rfl (Lw.ps rfl rfl (Lw.ps rfl rfl (Lw.p rfl (vB true) rfl (Lw.nil (⟨?_, ⟨true, W142, rfl, l142, rfl, hm⟩⟩)))))))))))))))))))))))))))))))))
     iterate 39 (refine .u ?_)
     exact Agree.refl _
    ·replace hm := bf hm hc147
     refine Lw.wa hc147 rfl (Lw.r rfl (R.lda (cs := [v0_0_9, v0_1_9]) (b26.up l142 rfl).cells rfl rfl) (Lw.wa hc147 rfl ?_))
     obtain ⟨z149, e150, hm⟩ := ob hm
     refine Lw.t rfl (T.call rfl (p15 (K := [0, 2, 3])  (x0 := (Vm.Repo.mk z7.1.Commits z7.1.Heads)) ((Repo.rd (K := [2, 3]) z7.1.Commits z7.1.Heads ((o24.up l142 rfl).rd.sub (M := [2, 3]) rfl) ((o25.up l142 rfl).rd.sub (M := [2, 3]) rfl)).sub (M := [0, 2, 3]) rfl) ((h99.ul a143).sub (M := [0, 2, 3]) rfl) e150)) ?_
     rintro _ _ ⟨W151, rfl, l151, rfl⟩
     have o153 := (o24.up l142 rfl).up l151 rfl
     have b155 := (b26.up l142 rfl).up l151 rfl
     refine Lw.wa hc147 rfl (Lw.r rfl (R.not rfl) (Lw.p hc147 (vB (!z149)) rfl (Lw.m (vB (!z149)) rfl (bsplit (!z149) (fun hc156 => ?_) (fun hc156 => ?_)))))
     ·replace hm := bt hm hc156
      refine Lw.ps hc156 rfl (Lw.ps hc156 rfl (Lw.ps hc156 rfl (Lw.ps hc156 rfl (Lw.p hc156 (vB true) rfl (Lw.m (vB true) rfl (Lw.ps rfl rfl (Lw.ps rfl rfl (Lw.p rfl (vB true) rfl (Lw.m (vB true) rfl (Lw.ps rfl rfl (Lw.ps rfl rfl (Lw.p rfl (vB true) rfl (Lw.m (vB true) rfl (Lw.ps rfl rfl (Lw.ps rfl rfl (Lw.ps rfl rfl (Lw.ps rfl rfl (Lw.ps rfl rfl (Lw.p rfl (vB true) rfl (Lw.m (vB true) rfl (Lw.ps rfl rfl (Lw.ps rfl rfl (Lw.ps rfl rfl (Lw.ps rfl rfl (Lw.ps rfl rfl (Lw.p rfl (vB true) rfl (Lw.nil (⟨?_, ⟨true, W151, rfl, (l142.trans l151), rfl, hm⟩⟩))))))))))))))))))))))))))))
      iterate 39 (refine .u ?_)
      exact Agree.refl _
     ·replace hm := bf hm hc156
      refine Lw.wa hc156 rfl (Lw.fa rfl (Lw.wa hc156 rfl (Lw.r rfl (R.ld (v := v0_0_9) rfl rfl (b155.cell rfl)) (Lw.wa hc156 rfl (Lw.ln z7.1.Commits o153.rd rfl (Lw.wa hc156 rfl (Lw.eq rfl (Lw.p hc156 (vB (((z7.1.Commits.length : Int) : Int) == (0 : Int))) rfl (Lw.m (vB (((z7.1.Commits.length : Int) : Int) == (0 : Int))) rfl (bsplit (((z7.1.Commits.length : Int) : Int) == (0 : Int)) (fun hc157 => ?_) (fun hc157 => ?_)))))))))))
      ·replace hm := bt hm hc157
       refine Lw.ps hc157 rfl (Lw.ps hc157 rfl (Lw.p hc157 (vB true) rfl (Lw.m (vB true) rfl (Lw.ps rfl rfl (Lw.ps rfl rfl (Lw.p rfl (vB true) rfl (Lw.m (vB true) rfl (Lw.ps rfl rfl (Lw.ps rfl rfl (Lw.ps rfl rfl (Lw.ps rfl rfl (Lw.ps rfl rfl (Lw.p rfl (vB true) rfl (Lw.m (vB true) rfl (Lw.ps rfl rfl (Lw.ps rfl rfl (Lw.ps rfl rfl (Lw.ps rfl rfl (Lw.ps rfl rfl (Lw.p rfl (vB true) rfl (Lw.nil (⟨?_, ⟨true, W151, rfl, (l142.trans l151), rfl, hm⟩⟩))))))))))))))))))))))
       iterate 39 (refine .u ?_)
       exact Agree.refl _
      ·replace hm := bf hm hc157
       refine Lw.wa hc157 rfl (Lw.m (vI z7.2.1) rfl (Lw.wa hc157 rfl (Lw.lt rfl (Lw.p hc157 (vB (decide ((z7.2.1 : Int) < (0 : Int)))) rfl (Lw.m (vB (decide ((z7.2.1 : Int) < (0 : Int)))) rfl (bsplit (decide ((z7.2.1 : Int) < (0 : Int))) (fun hc158 => ?_) (fun hc158 => ?_)))))))
       ·replace hm := bt hm hc158
        refine Lw.ps hc158 rfl (Lw.ps hc158 rfl (Lw.p hc158 (vB true) rfl (Lw.m (vB true) rfl (Lw.ps rfl rfl (Lw.ps rfl rfl (Lw.ps rfl rfl (Lw.ps rfl rfl (Lw.ps rfl rfl (Lw.p rfl (vB true) rfl (Lw.m (vB true) rfl (Lw.ps rfl rfl (Lw.ps rfl rfl (Lw.ps rfl rfl (Lw.ps rfl rfl (Lw.ps rfl rfl (Lw.p rfl (vB true) rfl (Lw.nil (⟨?_, ⟨true, W151, rfl, (l142.trans l151), rfl, hm⟩⟩))))))))))))))))))
        iterate 39 (refine .u ?_)
        exact Agree.refl _
       ·replace hm := bf hm hc158
        refine Lw.wa hc158 rfl (Lw.m (vI z7.2.2) rfl (Lw.wa hc158 rfl (Lw.lt rfl (Lw.p hc158 (vB (decide ((z7.2.2 : Int) < (0 : Int)))) rfl (Lw.m (vB (decide ((z7.2.2 : Int) < (0 : Int)))) rfl (bsplit (decide ((z7.2.2 : Int) < (0 : Int))) (fun hc159 => ?_) (fun hc159 => ?_)))))))
        ·replace hm := bt hm hc159
         refine Lw.ps hc159 rfl (Lw.ps hc159 rfl (Lw.ps hc159 rfl (Lw.ps hc159 rfl (Lw.ps hc159 rfl (Lw.p hc159 (vB true) rfl (Lw.m (vB true) rfl (Lw.ps rfl rfl (Lw.ps rfl rfl (Lw.ps rfl rfl (Lw.ps rfl rfl (Lw.ps rfl rfl (Lw.p rfl (vB true) rfl (Lw.nil (⟨?_, ⟨true, W151, rfl, (l142.trans l151), rfl, hm⟩⟩))))))))))))))
         iterate 39 (refine .u ?_)
         exact Agree.refl _
        ·replace hm := bf hm hc159
         refine Lw.wa hc159 rfl (Lw.m (vI z7.2.1) rfl (Lw.wa hc159 rfl (Lw.fa rfl (Lw.wa hc159 rfl (Lw.r rfl (R.ld (v := v0_0_9) rfl rfl (b155.cell rfl)) (Lw.wa hc159 rfl (Lw.ln z7.1.Commits o153.rd rfl (Lw.wa hc159 rfl (Lw.ge rfl (Lw.p hc159 (vB (decide (((z7.1.Commits.length : Int) : Int) ≤ (z7.2.1 : Int)))) rfl (Lw.m (vB (decide (((z7.1.Commits.length : Int) : Int) ≤ (z7.2.1 : Int)))) rfl (bsplit (decide (((z7.1.Commits.length : Int) : Int) ≤ (z7.2.1 : Int))) (fun hc160 => ?_) (fun hc160 => ?_)))))))))))))
         ·replace hm := bt hm hc160
          refine Lw.ps hc160 rfl (Lw.ps hc160 rfl (Lw.ps hc160 rfl (Lw.ps hc160 rfl (Lw.ps hc160 rfl (Lw.p hc160 (vB true) rfl (Lw.nil (⟨?_, ⟨true, W151, rfl, (l142.trans l151), rfl, hm⟩⟩)))))))
          iterate 39 (refine .u ?_)
          exact Agree.refl _
         ·replace hm := bf hm hc160
          refine Lw.wa hc160 rfl (Lw.m (vI z7.2.2) rfl (Lw.wa hc160 rfl (Lw.fa rfl (Lw.wa hc160 rfl (Lw.r rfl (R.ld (v := v0_0_9) rfl rfl (b155.cell rfl)) (Lw.wa hc160 rfl (Lw.ln z7.1.Commits o153.rd rfl (Lw.wa hc160 rfl (Lw.ge rfl (Lw.p hc160 (vB (decide (((z7.1.Commits.length : Int) : Int) ≤ (z7.2.2 : Int)))) rfl (Lw.nil (⟨?_, ⟨decide (((z7.1.Commits.length : Int) : Int) ≤ (z7.2.2 : Int)), W151, rfl, (l142.trans l151), rfl, hm⟩⟩))))))))))))
          iterate 39 (refine .u ?_)
          exact Agree.refl _
 ·refine Cw.region (Lw.m v0_ rfl (Lw.ln x0 h0 rfl (Lw.gt rfl (Lw.m (vB (decide ((1048576 : Int) < ((x0.length : Int) : Int)))) rfl (bsplit (decide ((1048576 : Int) < ((x0.length : Int) : Int))) (fun hc161 => ?_) (fun hc161 => ?_))))))
  ·replace hm := bt hm hc161
   refine Lw.ps hc161 rfl (Lw.ps hc161 rfl (Lw.ps hc161 rfl (Lw.p hc161 (vB true) rfl (Lw.nil (⟨?_, ⟨true, W0, rfl, Le.refl _ _, rfl, hm⟩⟩)))))
   iterate 8 (refine .u ?_)
   exact Agree.refl _
  ·replace hm := bf hm hc161
   refine Lw.wa hc161 rfl (Lw.m v1_ rfl (Lw.wa hc161 rfl (Lw.ln x1 h1 rfl (Lw.wa hc161 rfl (Lw.gt rfl (Lw.p hc161 (vB (decide ((1048576 : Int) < ((x1.length : Int) : Int)))) rfl (Lw.nil (⟨?_, ⟨decide ((1048576 : Int) < ((x1.length : Int) : Int)), W0, rfl, Le.refl _ _, rfl, hm⟩⟩))))))))
   iterate 8 (refine .u ?_)
   exact Agree.refl _

theorem p4 {W : CW} {K : List Nat} {x0 : List Byte} {v0_ : Value} {x1 : List Byte} {v1_ : Value} {r : Bool} (h0 : Rd W K [v0_] x0) (h1 : Rd W K [v1_] x1) (h99 : Gl 0 W K) (hm : Vm.laws_FnAncIs x0 x1 = some r) : CallR Tryz.prog 4 [v0_, v1_].toArray W.w (Res W [] fun W' v => v = vB r) :=
 (c4 (V := W.view K []) (h0.view _) (h1.view _) (h99.view _) hm).ad (fk 0) fun _ _ e => e

end Go.Sx
