/- Walks: each function answers as its model, printed by a program of ours. Conditions: the arguments read as they are given. -/
import Derived.Test.YtmjjhnahdmlmaaaDoorXTs
import Derived.Test.YtmjjhnahdmlmaaaDoorXMd
import Derived.Test.YtmjjhnahdmlmaaaDoorXW3
import Derived.Test.YtmjjhnahdmlmaaaDoorXE
namespace Go.Sx
open Go Go.Proofs Go.Vm Rp
set_option linter.unusedVariables false
set_option linter.unusedSimpArgs false

theorem c120 {V : CW} {x0 : List Vm.Head} {v0_ : Value} {x1 : Vm.Head} {r : (List Vm.Head)} (h0 : Rd V [0] [v0_] x0) (h1 : Rd V [0] [vS x1.Name, vI x1.At] x1) (hm : Vm.impl_insertHead x0 x1 = some r) : CallR Tryd.prog 120 [v0_, .agg [vS x1.Name, vI x1.At].toArray].toArray V.w (Res V LL fun Wf v => ∃ (u0 : Value), v = u0 ∧ OwS Wf LL [] [u0] r) := by
 unfold Vm.impl_insertHead at hm
 obtain ⟨W0, hW0⟩ : ∃ W, W = V := ⟨V, rfl⟩
 subst hW0
 refine CallR.of Tryd.func120 rfl rfl rfl rfl (Cw.seq (Cw.region (Lw.t rfl (T.box 2 (v := .agg [vS x1.Name, vI x1.At].toArray) (cs := [vS x1.Name, vI x1.At]) rfl rfl) ?_)))
 rintro _ _ ⟨g1, W1, rfl, rfl, l1, b1⟩
 have a2 := l1.o
 refine Lw.g (.slice none 0 0) rfl (Lw.nil (Cw.seq (Cw.region (Lw.m v0_ rfl (Lw.ln x0 (h0.ul a2) rfl (Lw.g (vI (x0.length : Int)) rfl (Lw.nil (Cw.seq (Cw.block ?_)))))))))
 obtain ⟨K6, hK6, hm⟩ := jn_e hm
 refine Cw.loop 8 22 [5] (fun m l w => ∃ (y4 : Int) (W5 : CW), W5.w = w ∧ Le [] W1 W5 ∧ l = [vI y4] ∧ Vm.impl_insertHead_l1 x0 x1 K6 m y4 = some r) (x0.length + 1) ⟨(x0.length : Int), W1, rfl, Le.refl _ _, rfl, hm⟩ ?_
 rintro m7 _ _ σ ⟨y4, W5, rfl, l5, rfl, hm⟩
 obtain _ | m7 := m7
 ·cases hm
 unfold Vm.impl_insertHead_l1 at hm
 have a8 := a2.n l5
 refine Cw.seq ?_
 obtain ⟨K12, hK12, hm⟩ := jn_e hm
 refine Cw.join 8 20 [20] (fun l w => ∃ (y10 : Bool) (W11 : CW), W11.w = w ∧ Le [] W5 W11 ∧ l = [vB y10] ∧ K12 y10 = some r) ?_ ?_
 ·rintro _ _ σ ⟨y10, W11, rfl, l11, rfl, hm⟩
  rw [hK12] at hm
  have a13 := a8.n l11
  refine Cw.cond (b := y10) rfl (fun hc15 => ?_) (fun hc15 => ?_)
  ·replace hm := bt hm hc15
   refine Cw.skip (Cw.block (Cw.region (Lw.m (vI y4) rfl (Lw.sub rfl (Lw.g (vI (w64 (y4 - 1))) rfl (Lw.nil (⟨?_, m7, Nat.lt_succ_self m7, ⟨w64 (y4 - 1), W11, rfl, (l5.trans l11), rfl, hm⟩⟩)))))))
   iterate 4 (refine .u ?_)
   refine Agree.ov0 rfl ?_
   iterate 1 (refine .u ?_)
   exact Agree.base
  ·replace hm := bf hm hc15
   refine Cw.exit ?_
   rw [hK6] at hm
   refine Cw.seq ?_
   obtain ⟨q22, e23, hm⟩ := ob hm
   obtain ⟨z32, e33, hm⟩ := ob hm
   refine Cw.par [[], [], [0, 1], [], [], [4], [0, 1, 2, 3, 4, 5], [0, 1, 2, 3, 4, 5, 6]] [[], [], [0, 1], [], [], [4], [2, 3, 5], [6]] [[], [], [3], [], [], [], [3], []] [[0], [1], [2], [3], [4], [5], [6], [6, 7]] [[3], [], [3], [], [], [4], [5], []] [1, 3, 4, 5, 6, 7] [3] [fun vs W => Ow W 3 [] [(vs 0)] ([] : List Head), fun vs W => (vs 1) = v0_, fun vs W => Ow W 3 [] [(vs 2)] q22, fun vs W => (vs 3) = vI y4, fun vs W => (vs 4) = .agg [vS x1.Name, vI x1.At].toArray, fun vs W => (vs 5) = .slice (some (bx (pg (vs 5)))) 1 1 ∧ Bx W 4 (pg (vs 5)) [vS x1.Name, vI x1.At], fun vs W => Ow W 5 [] [(vs 6)] z32, fun vs W => (vs 7) = (vs 6)] [] mixed (by kernel_rfl) rfl AllF.nil ?_
   intro W38 l38
   have a39 := a13.n l38
   refine ⟨(Steps.cons ?_ (Steps.cons ?_ (Steps.cons ?_ (Steps.cons ?_ (Steps.cons ?_ (Steps.cons ?_ (Steps.cons ?_ (Steps.cons ?_ Steps.nil)))))))), (Sups.cons (fun vs vs' W W' _ hv l hd h => by (show Ow W' 3 [] [(vs' 0)] ([] : List Head)); rw [hv 0 (anyb rfl)]; exact h.upv l (disj_mem hd (c := 3) rfl)) (Sups.cons (fun vs vs' W W' _ hv l hd h => by (show (vs' 1) = v0_); rw [hv 1 (anyb rfl)]; exact h) (Sups.cons (fun vs vs' W W' _ hv l hd h => by (show Ow W' 3 [] [(vs' 2)] q22); rw [hv 2 (anyb rfl)]; exact h.upv l (disj_mem hd (c := 3) rfl)) (Sups.cons (fun vs vs' W W' _ hv l hd h => by (show (vs' 3) = vI y4); rw [hv 3 (anyb rfl)]; exact h) (Sups.cons (fun vs vs' W W' _ hv l hd h => by (show (vs' 4) = .agg [vS x1.Name, vI x1.At].toArray); rw [hv 4 (anyb rfl)]; exact h) (Sups.cons (fun vs vs' W W' _ hv l hd h => by (show (vs' 5) = .slice (some (bx (pg (vs' 5)))) 1 1 ∧ Bx W' 4 (pg (vs' 5)) [vS x1.Name, vI x1.At]); rw [hv 5 (anyb rfl)]; exact ⟨h.1, h.2.up l (disj_mem hd (c := 4) rfl)⟩) (Sups.cons (fun vs vs' W W' _ hv l hd h => by (show Ow W' 5 [] [(vs' 6)] z32); rw [hv 6 (anyb rfl)]; exact h.upv l (disj_mem hd (c := 5) rfl)) (Sups.cons (fun vs vs' W W' _ hv l hd h => by (show (vs' 7) = (vs' 6)); rw [hv 6 (anyb rfl), hv 7 (anyb rfl)]; exact h) Sups.nil)))))))), ?_⟩
   ·intro vs W lW hN
    obtain ⟨W41, hW41⟩ : ∃ X, X = W := ⟨W, rfl⟩
    subst hW41
    refine Tr.mono (T.lit0 (α := Head) 3 []) ?_
    rintro v44 _ ⟨W44, rfl, l44, o44⟩
    exact ⟨W44, rfl, l44, (show Ow W44 3 [] [v44] ([] : List Head) from o44)⟩
   ·intro vs W lW hN
    obtain ⟨W47, hW47⟩ : ∃ X, X = W := ⟨W, rfl⟩
    subst hW47
    refine Tr.mono (Run.tr (R.mv (v := v0_) rfl)) ?_
    rintro _ _ ⟨hu, rfl⟩
    obtain rfl := hu.symm
    exact ⟨W47, rfl, Le.refl _ _, (show (v0_ : Value) = v0_ from rfl)⟩
   ·intro vs W lW hN
    obtain ⟨W50, hW50⟩ : ∃ X, X = W := ⟨W, rfl⟩
    subst hW50
    have a51 := a39.t lW rfl
    obtain ⟨pv0, e0_⟩ : ∃ v, vs 0 = v := ⟨_, rfl⟩
    obtain ⟨vs, rfl⟩ := up_eq e0_
    have o53 : Ow W50 3 [] [pv0] ([] : List Head) := (hN 0 (anyb rfl))
    have e1_ : vs 1 = v0_ := (hN 1 (anyb rfl))
    obtain ⟨vs, rfl⟩ := up_eq e1_
    refine Tr.mono (T.appP (α := Head) o53 (h0.ul a51) rfl rfl e23) ?_
    rintro v54 _ ⟨W54, rfl, l54, o54⟩
    exact ⟨W54, rfl, l54, (show Ow W54 3 [] [v54] q22 from o54)⟩
   ·intro vs W lW hN
    obtain ⟨W58, hW58⟩ : ∃ X, X = W := ⟨W, rfl⟩
    subst hW58
    refine Tr.mono (Run.tr (R.mv (v := vI y4) rfl)) ?_
    rintro _ _ ⟨hu, rfl⟩
    obtain rfl := hu.symm
    exact ⟨W58, rfl, Le.refl _ _, (show (vI y4 : Value) = vI y4 from rfl)⟩
   ·intro vs W lW hN
    obtain ⟨W61, hW61⟩ : ∃ X, X = W := ⟨W, rfl⟩
    subst hW61
    refine Tr.mono (Run.tr (R.lda (cs := [vS x1.Name, vI x1.At]) ((((b1.up l5 rfl).up l11 rfl).up l38 rfl).up lW rfl).cells rfl rfl)) ?_
    rintro _ _ ⟨hu, rfl⟩
    obtain rfl := hu.symm
    exact ⟨W61, rfl, Le.refl _ _, (show (.agg [vS x1.Name, vI x1.At].toArray : Value) = .agg [vS x1.Name, vI x1.At].toArray from rfl)⟩
   ·intro vs W lW hN
    obtain ⟨W64, hW64⟩ : ∃ X, X = W := ⟨W, rfl⟩
    subst hW64
    have e4_ : vs 4 = .agg [vS x1.Name, vI x1.At].toArray := (hN 4 (anyb rfl))
    obtain ⟨vs, rfl⟩ := up_eq e4_
    refine Tr.mono (T.bs 4 [.agg [vS x1.Name, vI x1.At].toArray] (cs := [vS x1.Name, vI x1.At]) rfl rfl (bsA rfl)) ?_
    rintro _ _ ⟨g67, W67, rfl, rfl, l67, b67⟩
    exact ⟨W67, rfl, l67, (show (.slice (some (bx g67)) 1 1 : Value) = .slice (some (bx g67)) 1 1 ∧ Bx W67 4 g67 [vS x1.Name, vI x1.At] from ⟨rfl, b67⟩)⟩
   ·intro vs W lW hN
    obtain ⟨W70, hW70⟩ : ∃ X, X = W := ⟨W, rfl⟩
    subst hW70
    obtain ⟨pv2, e2_⟩ : ∃ v, vs 2 = v := ⟨_, rfl⟩
    obtain ⟨vs, rfl⟩ := up_eq e2_
    have o73 : Ow W70 3 [] [pv2] q22 := (hN 2 (anyb rfl))
    have e3_ : vs 3 = vI y4 := (hN 3 (anyb rfl))
    obtain ⟨vs, rfl⟩ := up_eq e3_
    obtain ⟨pg5, e5_⟩ : ∃ pg5, vs 5 = .slice (some (bx pg5)) 1 1 := ⟨_, ((hN 5 (anyb rfl))).1⟩
    obtain ⟨vs, rfl⟩ := up_eq e5_
    have o74 : Bx W70 4 pg5 [vS x1.Name, vI x1.At] := (hN 5 (anyb rfl)).2
    refine Tr.mono (T.call rfl (p139 (K := [0]) (k0 := 5) (c0 := 3) o73 o74 (Head.rd (K := [0]) x1.Name x1.At ) rfl rfl e33)) ?_
    rintro v0_75 _ ⟨W75, rfl, l75, ⟨_, rfl, f75_0⟩⟩
    exact ⟨W75, rfl, l75, (show Ow W75 5 [] [v0_75] z32 from f75_0)⟩
   ·intro vs W lW hN
    obtain ⟨W79, hW79⟩ : ∃ X, X = W := ⟨W, rfl⟩
    subst hW79
    obtain ⟨pv6, e6_⟩ : ∃ v, vs 6 = v := ⟨_, rfl⟩
    obtain ⟨vs, rfl⟩ := up_eq e6_
    have o82 : Ow W79 5 [] [pv6] z32 := (hN 6 (anyb rfl))
    refine Tr.mono (Run.tr (R.as (v := pv6) rfl)) ?_
    rintro _ _ ⟨hu, rfl⟩
    obtain rfl := hu.symm
    exact ⟨W79, rfl, Le.refl _ _, (show (pv6 : Value) = pv6 from rfl)⟩
   ·intro vs W lW hN
    obtain ⟨W83, hW83⟩ : ∃ X, X = W := ⟨W, rfl⟩
    subst hW83
    have a84 := a39.t lW rfl
    obtain ⟨l83, hl83⟩ : ∃ x, x = lW := ⟨lW, rfl⟩
    have e1_ : vs 1 = v0_ := (hN 1 (anyb rfl))
    obtain ⟨vs, rfl⟩ := up_eq e1_
    have e3_ : vs 3 = vI y4 := (hN 3 (anyb rfl))
    obtain ⟨vs, rfl⟩ := up_eq e3_
    have e4_ : vs 4 = .agg [vS x1.Name, vI x1.At].toArray := (hN 4 (anyb rfl))
    obtain ⟨vs, rfl⟩ := up_eq e4_
    obtain ⟨pg5, e5_⟩ : ∃ pg5, vs 5 = .slice (some (bx pg5)) 1 1 := ⟨_, ((hN 5 (anyb rfl))).1⟩
    obtain ⟨vs, rfl⟩ := up_eq e5_
    have o86 : Bx W83 4 pg5 [vS x1.Name, vI x1.At] := (hN 5 (anyb rfl)).2
    obtain ⟨pv6, e6_⟩ : ∃ v, vs 6 = v := ⟨_, rfl⟩
    obtain ⟨vs, rfl⟩ := up_eq e6_
    have o87 : Ow W83 5 [] [pv6] z32 := (hN 6 (anyb rfl))
    have e7_ : vs 7 = pv6 := (hN 7 (anyb rfl))
    obtain ⟨vs, rfl⟩ := up_eq e7_
    cases hm
    exact Cw.ret (ret1 rfl (Res.mk a84 ⟨pv6, rfl, o87.s.sub rfl rfl⟩))
 ·refine Cw.draw [] [(0, 0), (1, 0), (2, 0), (3, 0), (4, 0), (5, 0), (6, 0), (7, 0), (8, 1), (9, 0), (10, 1), (11, 0), (12, 0)] mixed (by kernel_rfl) fun W88 l88 => ?_
  have a89 := a8.n l88
  refine Mw.p rfl rfl (fun _ => R.mv (v := vI y4) rfl) (Mw.p rfl rfl (fun _ => R.gt rfl rfl) (Mw.p rfl rfl (fun _ => R.mv (v := vB (decide ((0 : Int) < (y4 : Int)))) rfl) (bsplit (decide ((0 : Int) < (y4 : Int))) (fun hc91 => ?_) (fun hc91 => ?_))))
  ·replace hm := bt hm hc91
   refine Mw.gp hc91 rfl rfl rfl rfl rfl (fun _ => R.mv (v := v0_) rfl) (Mw.gp hc91 rfl rfl rfl rfl rfl (fun _ => R.mv (v := vI y4) rfl) (Mw.gp hc91 rfl rfl rfl rfl rfl (fun _ => R.sub rfl rfl) ?_))
   obtain ⟨u92, e93, hm⟩ := ob hm
   refine Mw.gp hc91 rfl rfl rfl rfl rfl (fun _ => R.ix (α := Head) (h0.ul a89) e93 rfl rfl rfl) (Mw.gp hc91 rfl rfl rfl rfl rfl (fun _ => R.fa rfl) (Mw.gq hc91 rfl rfl rfl rfl rfl (fun _ c => R.ld rfl rfl (cl_cell (Head.at0 ((h0.ul a89).at_ e93)).1 rfl (Head.at0 ((h0.ul a89).at_ e93)).str c)) (Mw.gp hc91 rfl rfl rfl rfl rfl (fun _ => R.fa rfl) (Mw.gq hc91 rfl rfl rfl rfl rfl (fun _ c => R.ld (v := vS x1.Name) rfl rfl (((b1.up l5 rfl).up l88 rfl).clc rfl rfl c)) (Mw.gp hc91 rfl rfl rfl rfl rfl (fun _ => R.sgt rfl rfl) (Mw.p rfl rfl (fun _ => R.pk hc91 rfl (v := vB (!(Op.bytesLess u92.Name x1.Name || u92.Name == x1.Name))) rfl) (Mw.nil (⟨?_, ⟨(!(Op.bytesLess u92.Name x1.Name || u92.Name == x1.Name)), W88, rfl, l88, rfl, hm⟩⟩))))))))
   iterate 13 (refine .u ?_)
   exact Agree.refl _
  ·replace hm := bf hm hc91
   refine Mw.ps hc91 rfl rfl (Mw.ps hc91 rfl rfl (Mw.ps hc91 rfl rfl (Mw.ps hc91 rfl rfl (Mw.ps hc91 rfl rfl (Mw.ps hc91 rfl rfl (Mw.ps hc91 rfl rfl (Mw.ps hc91 rfl rfl (Mw.ps hc91 rfl rfl (Mw.p rfl rfl (fun _ => R.pk hc91 rfl (v := vB false) rfl) (Mw.nil (⟨?_, ⟨false, W88, rfl, l88, rfl, hm⟩⟩)))))))))))
   iterate 13 (refine .u ?_)
   exact Agree.refl _

theorem p120 {W : CW} {K : List Nat} {x0 : List Vm.Head} {v0_ : Value} {x1 : Vm.Head} {k0 : Nat} {r : (List Vm.Head)} (h0 : Rd W K [v0_] x0) (h1 : Rd W K [vS x1.Name, vI x1.At] x1) (hm : Vm.impl_insertHead x0 x1 = some r) : CallR Tryd.prog 120 [v0_, .agg [vS x1.Name, vI x1.At].toArray].toArray W.w (Res W [] fun W' v => ∃ (u0 : Value), v = u0 ∧ Ow W' k0 [] [u0] r) :=
 (c120 (V := W.view K []) (h0.view _) (h1.view _) hm).ad (fk k0) fun _ _ ⟨u0, e, f0⟩ => ⟨u0, e, f0.back (fk_LL _)⟩

theorem c69 {V : CW} {x0 : Vm.Repo} {v0_0_ : Value} {v0_1_ : Value} {x1 : Str} {x2 : Int} {r : Vm.Repo} (h0_0 : Ow V 2 [] [v0_0_] x0.Commits) (h0_1 : Ow V 3 [] [v0_1_] x0.Heads) (hm : Vm.impl_Repo_point x0 x1 x2 = some r) : CallR Tryd.prog 69 [.agg [v0_0_, v0_1_].toArray, vS x1, vI x2].toArray V.w (Res V LL fun Wf v => ∃ (u0_0 : Value) (u0_1 : Value), v = .agg [u0_0, u0_1].toArray ∧ OwS Wf [31] [] [u0_0] r.Commits ∧ OwS Wf [32] [] [u0_1] r.Heads) := by
 unfold Vm.impl_Repo_point at hm
 obtain ⟨W0, hW0⟩ : ∃ W, W = V := ⟨V, rfl⟩
 subst hW0
 refine CallR.of Tryd.func69 rfl rfl rfl rfl (Cw.seq (Cw.region (Lw.t rfl (T.box 4 (v := .agg [v0_0_, v0_1_].toArray) (cs := [v0_0_, v0_1_]) rfl rfl) ?_)))
 rintro _ _ ⟨g1, W1, rfl, rfl, l1, b1⟩
 have a2 := l1.o
 refine Lw.t rfl (T.alloc 5 (cs := [.slice none 0 0, .slice none 0 0]) rfl) ?_
 rintro _ _ ⟨g5, W5, rfl, rfl, l5, b5⟩
 have a6 := a2.n l5
 have o8 := (h0_1.up l1 rfl).up l5 rfl
 refine Lw.nil (Cw.seq (Cw.seq (Cw.region (Lw.fa rfl (Lw.r rfl (R.ld (v := v0_1_) rfl rfl ((b1.up l5 rfl).cell rfl)) (Lw.ln x0.Heads o8.rd rfl (Lw.m (vI 0) rfl (Lw.nil (Cw.block ?_)))))))))
 obtain ⟨K22, hK22, hm⟩ := jn_e hm
 refine Cw.loop 11 29 [7, 11] (fun m l w => ∃ (y11 : Int) (y12 : List Vm.Commit) (y15 : List Vm.Head) (y19 : List Vm.Head) (j10 v13 v16 : Value) (W21 : CW), W21.w = w ∧ Le [] W5 W21 ∧ l = [j10, vI y11] ∧ Ow W21 6 [] [v13] y12 ∧ Ow W21 7 [] [v16] y15 ∧ Bx W21 5 g5 [v13, v16] ∧ Ow W21 3 [] [v0_1_] y19 ∧ Vm.impl_Repo_point_l1 x0 x1 x2 K22 m y11 y12 y15 y19 = some r) (((x0.Heads.length : Int) - 0).toNat + 1) ⟨0, ([] : List Commit), ([] : List Head), x0.Heads, undef, .slice none 0 0, .slice none 0 0, W5, rfl, Le.refl _ _, rfl, owN 6 [], owN 7 [], b5, o8, hm⟩ ?_
 rintro m23 _ _ σ ⟨y11, y12, y15, y19, j10, v13, v16, W21, rfl, l21, rfl, o14, o17, b18, o20, hm⟩
 obtain _ | m23 := m23
 ·cases hm
 unfold Vm.impl_Repo_point_l1 at hm
 have a24 := a6.n l21
 have o25 := ((h0_0.up l1 rfl).up l5 rfl).up l21 rfl
 have b26 := (b1.up l5 rfl).up l21 rfl
 refine Cw.seq (Cw.region (Lw.lt rfl (Lw.nil (Cw.seq (Cw.cond (b := decide ((y11 : Int) < ((x0.Heads.length : Int) : Int))) rfl (fun hc27 => ?_) (fun hc27 => ?_))))))
 ·replace hm := bt hm hc27
  refine Cw.skip (Cw.seq (Cw.block (Cw.seq (Cw.region (Lw.m (vI y11) rfl (Lw.g (vI y11) rfl (Lw.nil (Cw.seq (Cw.region (Lw.fa rfl (Lw.r rfl (R.ld (v := v0_1_) rfl rfl (b26.cell rfl)) (Lw.m (vI y11) rfl ?_))))))))))))
  obtain ⟨u28, e29, hm⟩ := ob hm
  refine Lw.r rfl (R.ix (α := Head) o20.rd e29 rfl rfl rfl) (Lw.fa rfl (Lw.r rfl (R.ld rfl rfl (Head.at0 (o20.rd.at_ e29)).str) (Lw.m (vS x1) rfl (Lw.seq rfl (Lw.nil (Cw.cond (b := (u28.Name == x1)) rfl (fun hc30 => ?_) (fun hc30 => ?_)))))))
  ·replace hm := bt hm hc30
   refine Cw.seq (Cw.region (Lw.fa rfl (Lw.r rfl (R.ld (v := v0_1_) rfl rfl (b26.cell rfl)) (Lw.m (vI y11) rfl (Lw.m (vI x2) rfl ?_)))))
   obtain ⟨u31, e32, hm⟩ := ob hm
   refine Lw.r rfl (R.ix (α := Head) o20.rd e32 rfl rfl rfl) (Lw.fa rfl ?_)
   obtain ⟨q34, e35, hm⟩ := ob hm
   refine Lw.u (T.stH (α := Head) (β := Int) (J := []) (Ow.hole (α := Head) (β := Int) (jf := 1) o20 e32) (OwS.atm (K := []) (rdI _)) e35 rfl rfl rfl rfl) ?_
   rintro _ _ ⟨W33, rfl, l33, o33⟩
   have a36 := a24.t l33 rfl
   refine Lw.nil (Cw.seq (Cw.region (Lw.r rfl (R.lda (cs := [v0_0_, v0_1_]) (b26.up l33 rfl).cells rfl rfl) (Lw.u (T.sta (vs := [v0_0_, v0_1_]) (b18.up l33 rfl) rfl rfl (oc_cons (o25.up l33 rfl).oc (oc_cons o33.oc oc_nil)) rfl rfl) ?_))))
   rintro _ _ ⟨W42, rfl, l42, b42⟩
   have a43 := a36.t l42 rfl
   refine Lw.nil ?_
   obtain ⟨W49, ew49, l49, o49⟩ := ((o25.up l33 rfl).up l42 rfl).dyeO 31
   have a50 := a43.t l49 rfl
   obtain ⟨W56, ew56, l56, o56⟩ := ((o33.up l42 rfl).up l49 rfl).dyeO 32
   have a57 := a50.t l56 rfl
   cases hm
   rw [← ew56.trans (ew49)]
   exact Cw.ret (retA1 rfl ((b42.up l49 rfl).up l56 rfl) (Res.mk a57 ⟨v0_0_, v0_1_, rfl, (o49.up l56 rfl).s, o56.s⟩))
  ·replace hm := bf hm hc30
   refine Cw.skip (Cw.region (Lw.add rfl (Lw.m (vI (w64 (y11 + 1))) rfl (Lw.nil (⟨?_, m23, Nat.lt_succ_self m23, ⟨w64 (y11 + 1), y12, y15, y19, vI y11, v13, v16, W21, rfl, l21, rfl, o14, o17, b18, o20, hm⟩⟩)))))
   iterate 15 (refine .u ?_)
   exact Agree.base
 ·replace hm := bf hm hc27
  refine Cw.exit ?_
  rw [hK22] at hm
  refine Cw.seq (Cw.region (Lw.fa rfl (Lw.r rfl (R.ld (v := v0_1_) rfl rfl (b26.cell rfl)) (Lw.m (vS x1) rfl (Lw.m (vI x2) rfl (Lw.r rfl (R.bd (zs := [vS ([] : Str), vI 0]) (cs := [vS x1, vI x2]) [(0, vS x1), (1, vI x2)] rfl rfl rfl (bp_cons rfl rfl (bp_cons rfl rfl bp_nil))) ?_))))))
  obtain ⟨z63, e64, hm⟩ := ob hm
  refine Lw.t rfl (T.call rfl (p120 (K := [0, 3]) (k0 := 8) (x1 := (Vm.Head.mk x1 x2)) (o20.rd.sub (M := [0, 3]) rfl) ((Head.rd (K := [0]) x1 x2 ).sub (M := [0, 3]) rfl) e64)) ?_
  rintro v0_65 _ ⟨W65, rfl, l65, ⟨_, rfl, f65_0⟩⟩
  have a66 := a24.n l65
  refine Lw.fa rfl (Lw.u (T.st (j := 1) (v := v0_65) (b26.up l65 rfl) rfl rfl f65_0.oc rfl rfl) ?_)
  rintro _ _ ⟨W73, rfl, l73, b73⟩
  have a74 := a66.t l73 rfl
  have o75 := (o25.up l65 rfl).up l73 rfl
  refine Lw.nil (Cw.seq (Cw.region (Lw.r rfl (R.lda (cs := [v0_0_, v0_65]) b73.cells rfl rfl) (Lw.u (T.sta (vs := [v0_0_, v0_65]) ((b18.up l65 rfl).up l73 rfl) rfl rfl (oc_cons o75.oc (oc_cons (f65_0.up l73 rfl).oc oc_nil)) rfl rfl) ?_))))
  rintro _ _ ⟨W81, rfl, l81, b81⟩
  have a82 := a74.t l81 rfl
  refine Lw.nil ?_
  obtain ⟨W89, ew89, l89, o89⟩ := (o75.up l81 rfl).dyeO 31
  have a90 := a82.t l89 rfl
  obtain ⟨W97, ew97, l97, o97⟩ := (((f65_0.up l73 rfl).up l81 rfl).up l89 rfl).dyeO 32
  have a98 := a90.t l97 rfl
  cases hm
  rw [← ew97.trans (ew89)]
  exact Cw.ret (retA1 rfl ((b81.up l89 rfl).up l97 rfl) (Res.mk a98 ⟨v0_0_, v0_65, rfl, (o89.up l97 rfl).s, o97.s⟩))

theorem p69 {W : CW} {K : List Nat} {x0 : Vm.Repo} {v0_0_ : Value} {v0_1_ : Value} {x1 : Str} {x2 : Int} {k0 : Nat} {k1 : Nat} {c0 : Nat} {c1 : Nat} {r : Vm.Repo} (h0_0 : Ow W c0 [] [v0_0_] x0.Commits) (h0_1 : Ow W c1 [] [v0_1_] x0.Heads) (hJ : okJ K [c0, c1] = true) (hm : Vm.impl_Repo_point x0 x1 x2 = some r) : CallR Tryd.prog 69 [.agg [v0_0_, v0_1_].toArray, vS x1, vI x2].toArray W.w (Res W [c0, c1] fun W' v => ∃ (u0_0 : Value) (u0_1 : Value), v = .agg [u0_0, u0_1].toArray ∧ Ow W' k0 [] [u0_0] r.Commits ∧ Ow W' k1 [] [u0_1] r.Heads) :=
 CallR.adJ (J := [c0, c1]) (fun c => bif Nat.beq c 0 then 0 else bif Nat.beq c 2 then c0 else bif Nat.beq c 3 then c1 else bif Nat.beq c 31 then k0 else bif Nat.beq c 32 then k1 else 0) (c69 (V := W.view K [c0, c1]) (h0_0.viewJ 0 hJ) (h0_1.viewJ 1 hJ) hm) fun _ _ ⟨u0_0, u0_1, e, f0, f1⟩ => ⟨u0_0, u0_1, e, f0.one1.backN rfl, f1.one1.backN rfl⟩

theorem c68 {V : CW} {x0 : Vm.Repo} {v0_0_ : Value} {v0_1_ : Value} {x1 : Vm.Repo} {v1_0_ : Value} {v1_1_ : Value} {r : Vm.Repo × Bool} (h0 : Rd V [0] [v0_0_, v0_1_] x0) (h1_0 : Ow V 2 [] [v1_0_] x1.Commits) (h1_1 : Ow V 3 [] [v1_1_] x1.Heads) (h99 : Gl 2 V [0]) (hm : Vm.impl_Repo_tried x0 x1 = some r) : CallR Tryd.prog 68 [.agg [v0_0_, v0_1_].toArray, .agg [v1_0_, v1_1_].toArray].toArray V.w (Res V LL fun Wf v => ∃ (u0_0 : Value) (u0_1 : Value), v = .tuple [.agg [u0_0, u0_1].toArray, vB r.2].toArray ∧ OwS Wf [31] [] [u0_0] r.1.Commits ∧ OwS Wf [32] [] [u0_1] r.1.Heads) := by
 unfold Vm.impl_Repo_tried at hm
 obtain ⟨w0_0, w0_1, he0, h0_0, h0_1⟩ := Repo.split h0
 simp only [List.cons.injEq, and_true, true_and] at he0
 obtain ⟨rfl, rfl⟩ := he0
 obtain ⟨W0, hW0⟩ : ∃ W, W = V := ⟨V, rfl⟩
 subst hW0
 refine CallR.of Tryd.func68 rfl rfl rfl rfl (Cw.seq (Cw.region (Lw.t rfl (T.box 4 (v := .agg [v0_0_, v0_1_].toArray) (cs := [v0_0_, v0_1_]) rfl rfl) ?_)))
 rintro _ _ ⟨g1, W1, rfl, rfl, l1, b1⟩
 have a2 := l1.o
 refine Lw.t rfl (T.box 5 (v := .agg [v1_0_, v1_1_].toArray) (cs := [v1_0_, v1_1_]) rfl rfl) ?_
 rintro _ _ ⟨g5, W5, rfl, rfl, l5, b5⟩
 have a6 := a2.n l5
 refine Lw.t rfl (T.alloc 6 (cs := [.slice none 0 0, .slice none 0 0]) rfl) ?_
 rintro _ _ ⟨g10, W10, rfl, rfl, l10, b10⟩
 have a11 := a6.n l10
 have o12 := ((h1_0.up l1 rfl).up l5 rfl).up l10 rfl
 have o13 := ((h1_1.up l1 rfl).up l5 rfl).up l10 rfl
 refine Lw.g (vB false) rfl (Lw.nil (Cw.seq (Cw.seq (Cw.region (Lw.r rfl (R.lda (cs := [v1_0_, v1_1_]) (b5.up l10 rfl).cells rfl rfl) ?_)))))
 obtain ⟨z17, e18, hm⟩ := ob hm
 refine Lw.t rfl (T.call rfl (p33 (K := [0, 2, 3])  (x0 := (Vm.Repo.mk x1.Commits x1.Heads)) ((Repo.rd (K := [2, 3]) x1.Commits x1.Heads (o12.rd.sub (M := [2, 3]) rfl) (o13.rd.sub (M := [2, 3]) rfl)).sub (M := [0, 2, 3]) rfl) ((h99.ul a11).sub (M := [0, 2, 3]) rfl) e18)) ?_
 rintro _ _ ⟨W19, rfl, l19, rfl⟩
 have a20 := a11.n l19
 refine Lw.r rfl (R.not rfl) (Lw.nil (Cw.cond (b := (!z17)) rfl (fun hc26 => ?_) (fun hc26 => ?_)))
 ·replace hm := bt hm hc26
  refine Cw.seq (Cw.region (Lw.r rfl (R.lda (cs := [v0_0_, v0_1_]) (((b1.up l5 rfl).up l10 rfl).up l19 rfl).cells rfl rfl) ?_))
  obtain ⟨z29, e30, hm⟩ := ob hm
  refine Lw.t rfl (T.call rfl (p58 (K := [0]) (k0 := 7) (k1 := 8) (Repo.rd (K := [0]) x0.Commits x0.Heads (h0_0.ul a20) (h0_1.ul a20)) e30)) ?_
  rintro _ _ ⟨W31, rfl, l31, ⟨v0_0_31, v0_1_31, rfl, f31_0, f31_1⟩⟩
  have a32 := a20.n l31
  refine Lw.u (T.sta (vs := [v0_0_31, v0_1_31]) ((b10.up l19 rfl).up l31 rfl) rfl rfl (oc_cons f31_0.oc (oc_cons f31_1.oc oc_nil)) rfl rfl) ?_
  rintro _ _ ⟨W38, rfl, l38, b38⟩
  have a39 := a32.t l38 rfl
  refine Lw.g (vB false) rfl (Lw.nil ?_)
  obtain ⟨W46, ew46, l46, o46⟩ := (f31_0.up l38 rfl).dyeO 31
  have a47 := a39.t l46 rfl
  obtain ⟨W54, ew54, l54, o54⟩ := ((f31_1.up l38 rfl).up l46 rfl).dyeO 32
  have a55 := a47.t l54 rfl
  cases hm
  rw [← ew54.trans (ew46)]
  exact Cw.ret (retA2 rfl ((b38.up l46 rfl).up l54 rfl) rfl (Res.mk a55 ⟨v0_0_31, v0_1_31, rfl, (o46.up l54 rfl).s, o54.s⟩))
 ·replace hm := bf hm hc26
  refine Cw.skip (Cw.seq (Cw.region (Lw.r rfl (R.lda (cs := [v1_0_, v1_1_]) ((b5.up l10 rfl).up l19 rfl).cells rfl rfl) (Lw.u (T.sta (vs := [v1_0_, v1_1_]) (b10.up l19 rfl) rfl rfl (oc_cons (o12.up l19 rfl).oc (oc_cons (o13.up l19 rfl).oc oc_nil)) rfl rfl) ?_))))
  rintro _ _ ⟨W62, rfl, l62, b62⟩
  have a63 := a20.t l62 rfl
  refine Lw.g (vB true) rfl (Lw.nil ?_)
  obtain ⟨W68, ew68, l68, o68⟩ := ((o12.up l19 rfl).up l62 rfl).dyeO 31
  have a69 := a63.t l68 rfl
  obtain ⟨W74, ew74, l74, o74⟩ := (((o13.up l19 rfl).up l62 rfl).up l68 rfl).dyeO 32
  have a75 := a69.t l74 rfl
  cases hm
  rw [← ew74.trans (ew68)]
  exact Cw.ret (retA2 rfl ((b62.up l68 rfl).up l74 rfl) rfl (Res.mk a75 ⟨v1_0_, v1_1_, rfl, (o68.up l74 rfl).s, o74.s⟩))

theorem p68 {W : CW} {K : List Nat} {x0 : Vm.Repo} {v0_0_ : Value} {v0_1_ : Value} {x1 : Vm.Repo} {v1_0_ : Value} {v1_1_ : Value} {k0 : Nat} {k1 : Nat} {c0 : Nat} {c1 : Nat} {r : Vm.Repo × Bool} (h0 : Rd W K [v0_0_, v0_1_] x0) (h1_0 : Ow W c0 [] [v1_0_] x1.Commits) (h1_1 : Ow W c1 [] [v1_1_] x1.Heads) (h99 : Gl 2 W K) (hJ : okJ K [c0, c1] = true) (hm : Vm.impl_Repo_tried x0 x1 = some r) : CallR Tryd.prog 68 [.agg [v0_0_, v0_1_].toArray, .agg [v1_0_, v1_1_].toArray].toArray W.w (Res W [c0, c1] fun W' v => ∃ (u0_0 : Value) (u0_1 : Value), v = .tuple [.agg [u0_0, u0_1].toArray, vB r.2].toArray ∧ Ow W' k0 [] [u0_0] r.1.Commits ∧ Ow W' k1 [] [u0_1] r.1.Heads) :=
 CallR.adJ (J := [c0, c1]) (fun c => bif Nat.beq c 0 then 0 else bif Nat.beq c 2 then c0 else bif Nat.beq c 3 then c1 else bif Nat.beq c 31 then k0 else bif Nat.beq c 32 then k1 else 0) (c68 (V := W.view K [c0, c1]) (h0.view _) (h1_0.viewJ 0 hJ) (h1_1.viewJ 1 hJ) (h99.view _) hm) fun _ _ ⟨u0_0, u0_1, e, f0, f1⟩ => ⟨u0_0, u0_1, e, f0.one1.backN rfl, f1.one1.backN rfl⟩

theorem c23 {V : CW} {x0 : Vm.Repo} {v0_0_ : Value} {v0_1_ : Value} {x1 : Str} {x2 : Int} {r : Vm.Repo × Bool} (h0 : Rd V [0] [v0_0_, v0_1_] x0) (h99 : Gl 2 V [0]) (hm : Vm.impl_RepoBranch x0 x1 x2 = some r) : CallR Tryd.prog 23 [.agg [v0_0_, v0_1_].toArray, vS x1, vI x2].toArray V.w (Res V LL fun Wf v => ∃ (u0_0 : Value) (u0_1 : Value), v = .tuple [.agg [u0_0, u0_1].toArray, vB r.2].toArray ∧ OwS Wf [31] [] [u0_0] r.1.Commits ∧ OwS Wf [32] [] [u0_1] r.1.Heads) := by
 unfold Vm.impl_RepoBranch at hm
 obtain ⟨w0_0, w0_1, he0, h0_0, h0_1⟩ := Repo.split h0
 simp only [List.cons.injEq, and_true, true_and] at he0
 obtain ⟨rfl, rfl⟩ := he0
 obtain ⟨W0, hW0⟩ : ∃ W, W = V := ⟨V, rfl⟩
 subst hW0
 refine CallR.of Tryd.func23 rfl rfl rfl rfl (Cw.seq (Cw.region (Lw.t rfl (T.box 2 (v := .agg [v0_0_, v0_1_].toArray) (cs := [v0_0_, v0_1_]) rfl rfl) ?_)))
 rintro _ _ ⟨g1, W1, rfl, rfl, l1, b1⟩
 have a2 := l1.o
 refine Lw.t rfl (T.alloc 3 (cs := [.slice none 0 0, .slice none 0 0]) rfl) ?_
 rintro _ _ ⟨g3, W3, rfl, rfl, l3, b3⟩
 have a4 := a2.n l3
 refine Lw.g (vB false) rfl (Lw.nil (Cw.seq (Cw.seq (Cw.region (Lw.r rfl (R.lda (cs := [v0_0_, v0_1_]) (b1.up l3 rfl).cells rfl rfl) ?_)))))
 obtain ⟨z9, e10, hm⟩ := ob hm
 refine Lw.t rfl (T.call rfl (p33 (K := [0])  (Repo.rd (K := [0]) x0.Commits x0.Heads (h0_0.ul a4) (h0_1.ul a4)) (h99.ul a4) e10)) ?_
 rintro _ _ ⟨W11, rfl, l11, rfl⟩
 have a12 := a4.n l11
 have b13 := (b1.up l3 rfl).up l11 rfl
 refine Lw.r rfl (R.not rfl) (Lw.nil (Cw.cond (b := (!z9)) rfl (fun hc15 => ?_) (fun hc15 => ?_)))
 ·replace hm := bt hm hc15
  refine Cw.seq (Cw.region (Lw.r rfl (R.bd (zs := [.slice none 0 0, .slice none 0 0]) (cs := [.slice none 0 0, .slice none 0 0]) [] rfl rfl rfl bp_nil) (Lw.u (T.sta (vs := [.slice none 0 0, .slice none 0 0]) (b3.up l11 rfl) rfl rfl (oc_cons rfl (oc_cons rfl oc_nil)) rfl rfl) ?_)))
  rintro _ _ ⟨W16, rfl, l16, b16⟩
  have a17 := a12.t l16 rfl
  refine Lw.g (vB false) rfl (Lw.nil ?_)
  cases hm
  exact Cw.ret (retA2 rfl b16 rfl (Res.mk a17 ⟨.slice none 0 0, .slice none 0 0, rfl, (owsN []).sub rfl rfl, (owsN []).sub rfl rfl⟩))
 ·replace hm := bf hm hc15
  refine Cw.skip (Cw.seq (Cw.seq (Cw.region (Lw.r rfl (R.lda (cs := [v0_0_, v0_1_]) b13.cells rfl rfl) (Lw.m (vS x1) rfl ?_)))))
  obtain ⟨z21, e22, hm⟩ := ob hm
  refine Lw.t rfl (T.call rfl (p67 (K := [0])  (Repo.rd (K := [0]) x0.Commits x0.Heads (h0_0.ul a12) (h0_1.ul a12)) e22)) ?_
  rintro _ _ ⟨W23, rfl, l23, rfl⟩
  have a24 := a12.n l23
  have b26 := (b3.up l11 rfl).up l23 rfl
  refine Lw.ge rfl (Lw.nil (Cw.cond (b := decide ((0 : Int) ≤ (z21 : Int))) rfl (fun hc27 => ?_) (fun hc27 => ?_)))
  ·replace hm := bt hm hc27
   refine Cw.seq (Cw.region (Lw.r rfl (R.lda (cs := [v0_0_, v0_1_]) (b13.up l23 rfl).cells rfl rfl) ?_))
   obtain ⟨z30, e31, hm⟩ := ob hm
   refine Lw.t rfl (T.call rfl (p58 (K := [0]) (k0 := 4) (k1 := 5) (Repo.rd (K := [0]) x0.Commits x0.Heads (h0_0.ul a24) (h0_1.ul a24)) e31)) ?_
   rintro _ _ ⟨W32, rfl, l32, ⟨v0_0_32, v0_1_32, rfl, f32_0, f32_1⟩⟩
   have a33 := a24.n l32
   refine Lw.u (T.sta (vs := [v0_0_32, v0_1_32]) (b26.up l32 rfl) rfl rfl (oc_cons f32_0.oc (oc_cons f32_1.oc oc_nil)) rfl rfl) ?_
   rintro _ _ ⟨W36, rfl, l36, b36⟩
   have a37 := a33.t l36 rfl
   refine Lw.g (vB false) rfl (Lw.nil ?_)
   obtain ⟨W41, ew41, l41, o41⟩ := (f32_0.up l36 rfl).dyeO 31
   have a42 := a37.t l41 rfl
   obtain ⟨W46, ew46, l46, o46⟩ := ((f32_1.up l36 rfl).up l41 rfl).dyeO 32
   have a47 := a42.t l46 rfl
   cases hm
   rw [← ew46.trans (ew41)]
   exact Cw.ret (retA2 rfl ((b36.up l41 rfl).up l46 rfl) rfl (Res.mk a47 ⟨v0_0_32, v0_1_32, rfl, (o41.up l46 rfl).s, o46.s⟩))
  ·replace hm := bf hm hc27
   refine Cw.skip (Cw.seq (Cw.draw [6, 7, 8, 9] [(0, 1), (1, 1), (3, 0), (4, 0), (2, 2), (5, 2), (6, 2), (7, 0), (8, 0), (9, 3), (10, 0)] mixed (by kernel_rfl) fun W51 l51 => ?_))
   have a52 := a24.n l51
   have b53 := (b13.up l23 rfl).up l51 rfl
   refine Mw.q rfl rfl (fun _ c => R.lda (cs := [v0_0_, v0_1_]) (b53.clcs rfl c) rfl rfl) (Mw.q rfl rfl (fun _ c => R.lda (cs := [v0_0_, v0_1_]) (b53.clcs rfl c) rfl rfl) (Mw.p rfl rfl (fun _ => R.mv (v := vS x1) rfl) (Mw.p rfl rfl (fun _ => R.mv (v := vI x2) rfl) ?_)))
   obtain ⟨z57, e58, hm⟩ := ob hm
   refine Mw.t rfl rfl (T.call rfl (p58 (K := [0]) (k0 := 6) (k1 := 7) (Repo.rd (K := [0]) x0.Commits x0.Heads (h0_0.ul a52) (h0_1.ul a52)) e58)) ?_
   rintro _ _ ⟨W59, rfl, l59, ⟨v0_0_59, v0_1_59, rfl, f59_0, f59_1⟩⟩
   have a60 := a52.n l59
   refine ⟨⟨_, rfl, (l59.sub (M := [6, 7, 8, 9]) rfl)⟩, ?_⟩
   obtain ⟨z63, e64, hm⟩ := ob hm
   refine Mw.t rfl rfl (T.call rfl (p69 (K := [0]) (k0 := 8) (k1 := 9) (c0 := 6) (c1 := 7) (x0 := (Vm.Repo.mk z57.Commits z57.Heads)) f59_0 f59_1 rfl e64)) ?_
   rintro _ _ ⟨W65, rfl, l65, ⟨v0_0_65, v0_1_65, rfl, f65_0, f65_1⟩⟩
   have a66 := a60.t l65 rfl
   refine ⟨⟨_, rfl, ((l59.sub (M := [6, 7, 8, 9]) rfl).trans (l65.sub (M := [6, 7, 8, 9]) rfl))⟩, ?_⟩
   obtain ⟨z72, e73, hm⟩ := ob hm
   refine Mw.t rfl rfl (T.call rfl (p68 (K := [0]) (k0 := 10) (k1 := 11) (c0 := 8) (c1 := 9) (x1 := (Vm.Repo.mk z63.Commits z63.Heads)) (Repo.rd (K := [0]) x0.Commits x0.Heads (h0_0.ul a66) (h0_1.ul a66)) f65_0 f65_1 (h99.ul a66) rfl e73)) ?_
   rintro _ _ ⟨W74, rfl, l74, ⟨v0_0_74, v0_1_74, rfl, f74_0, f74_1⟩⟩
   have a75 := a66.t l74 rfl
   refine ⟨⟨_, rfl, ((l59.sub (M := [6, 7, 8, 9]) rfl).trans ((l65.sub (M := [6, 7, 8, 9]) rfl).trans (l74.sub (M := [6, 7, 8, 9]) rfl)))⟩, ?_⟩
   refine Mw.p rfl rfl (fun _ => R.ext (vs := [.agg [v0_0_74, v0_1_74].toArray, vB z72.2]) (v := .agg [v0_0_74, v0_1_74].toArray) rfl rfl) (Mw.p rfl rfl (fun _ => R.ext (vs := [.agg [v0_0_74, v0_1_74].toArray, vB z72.2]) (v := vB z72.2) rfl rfl) (Mw.lu rfl (T.sta (vs := [v0_0_74, v0_1_74]) ((((b26.up l51 rfl).up l59 rfl).up l65 rfl).up l74 rfl) rfl rfl (oc_cons f74_0.oc (oc_cons f74_1.oc oc_nil)) rfl rfl) ?_))
   rintro _ _ ⟨W78, rfl, l78, b78⟩
   have a79 := a75.t l78 rfl
   refine Mw.p rfl rfl (fun _ => R.as (v := vB z72.2) rfl) (Mw.nil ?_)
   obtain ⟨W83, ew83, l83, o83⟩ := (f74_0.up l78 rfl).dyeO 31
   have a84 := a79.t l83 rfl
   obtain ⟨W88, ew88, l88, o88⟩ := ((f74_1.up l78 rfl).up l83 rfl).dyeO 32
   have a89 := a84.t l88 rfl
   cases hm
   rw [← ew88.trans (ew83)]
   exact Cw.ret (retA2 rfl ((b78.up l83 rfl).up l88 rfl) rfl (Res.mk a89 ⟨v0_0_74, v0_1_74, rfl, (o83.up l88 rfl).s, o88.s⟩))

theorem p23 {W : CW} {K : List Nat} {x0 : Vm.Repo} {v0_0_ : Value} {v0_1_ : Value} {x1 : Str} {x2 : Int} {k0 : Nat} {k1 : Nat} {r : Vm.Repo × Bool} (h0 : Rd W K [v0_0_, v0_1_] x0) (h99 : Gl 2 W K) (hm : Vm.impl_RepoBranch x0 x1 x2 = some r) : CallR Tryd.prog 23 [.agg [v0_0_, v0_1_].toArray, vS x1, vI x2].toArray W.w (Res W [] fun W' v => ∃ (u0_0 : Value) (u0_1 : Value), v = .tuple [.agg [u0_0, u0_1].toArray, vB r.2].toArray ∧ Ow W' k0 [] [u0_0] r.1.Commits ∧ Ow W' k1 [] [u0_1] r.1.Heads) :=
 CallR.adJ (J := []) (fun c => bif Nat.beq c 0 then 0 else bif Nat.beq c 31 then k0 else bif Nat.beq c 32 then k1 else 0) (c23 (V := W.view K []) (h0.view _) (h99.view _) hm) fun _ _ ⟨u0_0, u0_1, e, f0, f1⟩ => ⟨u0_0, u0_1, e, f0.one1.backN rfl, f1.one1.backN rfl⟩

theorem c39 {V : CW} {x0 : List Int} {v0_ : Value} {x1 : List Int} {v1_ : Value} {r : Bool} (h0 : Rd V [0] [v0_] x0) (h1 : Rd V [0] [v1_] x1) (hm : Vm.laws_eqIntS x0 x1 = some r) : CallR Tryd.prog 39 [v0_, v1_].toArray V.w (Res V LL fun Wf v => v = vB r) := by
 unfold Vm.laws_eqIntS at hm
 obtain ⟨W0, hW0⟩ : ∃ W, W = V := ⟨V, rfl⟩
 subst hW0
 refine CallR.of Tryd.func39 rfl rfl rfl rfl (Cw.seq (Cw.region (Lw.g (vB false) rfl (Lw.nil (Cw.seq (Cw.seq (Cw.region (Lw.m v0_ rfl (Lw.ln x0 h0 rfl (Lw.m v1_ rfl (Lw.ln x1 h1 rfl (Lw.ne rfl (Lw.nil (Cw.cond (b := (((x0.length : Int) : Int) != ((x1.length : Int) : Int))) rfl (fun hc1 => ?_) (fun hc1 => ?_)))))))))))))))
 ·replace hm := bt hm hc1
  refine Cw.seq (Cw.region (Lw.g (vB false) rfl (Lw.nil ?_)))
  cases hm
  exact Cw.ret (ret1 rfl (Res.mk (Le.refl _ _) rfl))
 ·replace hm := bf hm hc1
  refine Cw.skip (Cw.seq (Cw.seq (Cw.region (Lw.g (vI 0) rfl (Lw.nil (Cw.block ?_))))))
  obtain ⟨K5, hK5, hm⟩ := jn_e hm
  refine Cw.loop 11 25 [4, 5] (fun m l w => ∃ (y2 : Bool) (y3 : Int) (W4 : CW), W4.w = w ∧ Le [] W0 W4 ∧ l = [vB y2, vI y3] ∧ Vm.laws_eqIntS_l1 x0 x1 K5 m y2 y3 = some r) (((x0.length : Int) - 0).toNat + 1) ⟨false, 0, W0, rfl, Le.refl _ _, rfl, hm⟩ ?_
  rintro m6 _ _ σ ⟨y2, y3, W4, rfl, l4, rfl, hm⟩
  obtain _ | m6 := m6
  ·cases hm
  unfold Vm.laws_eqIntS_l1 at hm
  have a7 := l4.o
  refine Cw.seq (Cw.seq (Cw.region (Lw.m (vI y3) rfl (Lw.m v0_ rfl (Lw.ln x0 (h0.ul a7) rfl (Lw.lt rfl (Lw.nil (Cw.cond (b := decide ((y3 : Int) < ((x0.length : Int) : Int))) rfl (fun hc9 => ?_) (fun hc9 => ?_)))))))))
  ·replace hm := bt hm hc9
   refine Cw.skip (Cw.seq (Cw.block (Cw.seq (Cw.draw [] [(0, 0), (1, 0), (2, 0), (3, 1), (4, 0), (5, 0), (6, 0), (7, 1), (8, 0)] mixed (by kernel_rfl) fun W10 l10 => ?_))))
   have a11 := a7.n l10
   refine Mw.p rfl rfl (fun _ => R.mv (v := v0_) rfl) (Mw.p rfl rfl (fun _ => R.mv (v := vI y3) rfl) ?_)
   obtain ⟨u12, e13, hm⟩ := ob hm
   refine Mw.p rfl rfl (fun _ => R.ix (α := Int) (h0.ul a11) e13 rfl rfl rfl) (Mw.q rfl rfl (fun _ c => R.ld rfl rfl (cl_cell ((h0.ul a11).at_ e13).1 rfl ((h0.ul a11).at_ e13).int c)) (Mw.p rfl rfl (fun _ => R.mv (v := v1_) rfl) (Mw.p rfl rfl (fun _ => R.mv (v := vI y3) rfl) ?_)))
   obtain ⟨u15, e16, hm⟩ := ob hm
   refine Mw.p rfl rfl (fun _ => R.ix (α := Int) (h1.ul a11) e16 rfl rfl rfl) (Mw.q rfl rfl (fun _ c => R.ld rfl rfl (cl_cell ((h1.ul a11).at_ e16).1 rfl ((h1.ul a11).at_ e16).int c)) (Mw.p rfl rfl (fun _ => R.ne rfl rfl) (Mw.nil (Cw.cond (b := ((u12 : Int) != (u15 : Int))) rfl (fun hc18 => ?_) (fun hc18 => ?_)))))
   ·replace hm := bt hm hc18
    refine Cw.seq (Cw.region (Lw.g (vB false) rfl (Lw.nil ?_)))
    cases hm
    exact Cw.ret (ret1 rfl (Res.mk a11 rfl))
   ·replace hm := bf hm hc18
    refine Cw.skip (Cw.region (Lw.m (vI y3) rfl (Lw.add rfl (Lw.g (vI (w64 (y3 + 1))) rfl (Lw.nil (⟨?_, m6, Nat.lt_succ_self m6, ⟨y2, w64 (y3 + 1), W10, rfl, (l4.trans l10), rfl, hm⟩⟩))))))
    iterate 18 (refine .u ?_)
    exact Agree.base
  ·replace hm := bf hm hc9
   refine Cw.exit ?_
   rw [hK5] at hm
   refine Cw.seq (Cw.region (Lw.g (vB true) rfl (Lw.nil ?_)))
   cases hm
   exact Cw.ret (ret1 rfl (Res.mk a7 rfl))

theorem p39 {W : CW} {K : List Nat} {x0 : List Int} {v0_ : Value} {x1 : List Int} {v1_ : Value} {r : Bool} (h0 : Rd W K [v0_] x0) (h1 : Rd W K [v1_] x1) (hm : Vm.laws_eqIntS x0 x1 = some r) : CallR Tryd.prog 39 [v0_, v1_].toArray W.w (Res W [] fun W' v => v = vB r) :=
 (c39 (V := W.view K []) (h0.view _) (h1.view _) hm).ad (fk 0) fun _ _ e => e

theorem c53 {V : CW} {x0 : List Str} {v0_ : Value} {x1 : List Str} {v1_ : Value} {r : Bool} (h0 : Rd V [0] [v0_] x0) (h1 : Rd V [0] [v1_] x1) (hm : Vm.laws_eqStringS x0 x1 = some r) : CallR Tryd.prog 53 [v0_, v1_].toArray V.w (Res V LL fun Wf v => v = vB r) := by
 unfold Vm.laws_eqStringS at hm
 obtain ⟨W0, hW0⟩ : ∃ W, W = V := ⟨V, rfl⟩
 subst hW0
 refine CallR.of Tryd.func53 rfl rfl rfl rfl (Cw.seq (Cw.region (Lw.g (vB false) rfl (Lw.nil (Cw.seq (Cw.seq (Cw.region (Lw.m v0_ rfl (Lw.ln x0 h0 rfl (Lw.m v1_ rfl (Lw.ln x1 h1 rfl (Lw.ne rfl (Lw.nil (Cw.cond (b := (((x0.length : Int) : Int) != ((x1.length : Int) : Int))) rfl (fun hc1 => ?_) (fun hc1 => ?_)))))))))))))))
 ·replace hm := bt hm hc1
  refine Cw.seq (Cw.region (Lw.g (vB false) rfl (Lw.nil ?_)))
  cases hm
  exact Cw.ret (ret1 rfl (Res.mk (Le.refl _ _) rfl))
 ·replace hm := bf hm hc1
  refine Cw.skip (Cw.seq (Cw.seq (Cw.region (Lw.g (vI 0) rfl (Lw.nil (Cw.block ?_))))))
  obtain ⟨K5, hK5, hm⟩ := jn_e hm
  refine Cw.loop 11 25 [4, 5] (fun m l w => ∃ (y2 : Bool) (y3 : Int) (W4 : CW), W4.w = w ∧ Le [] W0 W4 ∧ l = [vB y2, vI y3] ∧ Vm.laws_eqStringS_l1 x0 x1 K5 m y2 y3 = some r) (((x0.length : Int) - 0).toNat + 1) ⟨false, 0, W0, rfl, Le.refl _ _, rfl, hm⟩ ?_
  rintro m6 _ _ σ ⟨y2, y3, W4, rfl, l4, rfl, hm⟩
  obtain _ | m6 := m6
  ·cases hm
  unfold Vm.laws_eqStringS_l1 at hm
  have a7 := l4.o
  refine Cw.seq (Cw.seq (Cw.region (Lw.m (vI y3) rfl (Lw.m v0_ rfl (Lw.ln x0 (h0.ul a7) rfl (Lw.lt rfl (Lw.nil (Cw.cond (b := decide ((y3 : Int) < ((x0.length : Int) : Int))) rfl (fun hc9 => ?_) (fun hc9 => ?_)))))))))
  ·replace hm := bt hm hc9
   refine Cw.skip (Cw.seq (Cw.block (Cw.seq (Cw.draw [] [(0, 0), (1, 0), (2, 0), (3, 1), (4, 0), (5, 0), (6, 0), (7, 1), (8, 0)] mixed (by kernel_rfl) fun W10 l10 => ?_))))
   have a11 := a7.n l10
   refine Mw.p rfl rfl (fun _ => R.mv (v := v0_) rfl) (Mw.p rfl rfl (fun _ => R.mv (v := vI y3) rfl) ?_)
   obtain ⟨u12, e13, hm⟩ := ob hm
   refine Mw.p rfl rfl (fun _ => R.ix (α := Str) (h0.ul a11) e13 rfl rfl rfl) (Mw.q rfl rfl (fun _ c => R.ld rfl rfl (cl_cell ((h0.ul a11).at_ e13).1 rfl ((h0.ul a11).at_ e13).str c)) (Mw.p rfl rfl (fun _ => R.mv (v := v1_) rfl) (Mw.p rfl rfl (fun _ => R.mv (v := vI y3) rfl) ?_)))
   obtain ⟨u15, e16, hm⟩ := ob hm
   refine Mw.p rfl rfl (fun _ => R.ix (α := Str) (h1.ul a11) e16 rfl rfl rfl) (Mw.q rfl rfl (fun _ c => R.ld rfl rfl (cl_cell ((h1.ul a11).at_ e16).1 rfl ((h1.ul a11).at_ e16).str c)) (Mw.p rfl rfl (fun _ => R.sne rfl rfl) (Mw.nil (Cw.cond (b := (u12 != u15)) rfl (fun hc18 => ?_) (fun hc18 => ?_)))))
   ·replace hm := bt hm hc18
    refine Cw.seq (Cw.region (Lw.g (vB false) rfl (Lw.nil ?_)))
    cases hm
    exact Cw.ret (ret1 rfl (Res.mk a11 rfl))
   ·replace hm := bf hm hc18
    refine Cw.skip (Cw.region (Lw.m (vI y3) rfl (Lw.add rfl (Lw.g (vI (w64 (y3 + 1))) rfl (Lw.nil (⟨?_, m6, Nat.lt_succ_self m6, ⟨y2, w64 (y3 + 1), W10, rfl, (l4.trans l10), rfl, hm⟩⟩))))))
    iterate 18 (refine .u ?_)
    exact Agree.base
  ·replace hm := bf hm hc9
   refine Cw.exit ?_
   rw [hK5] at hm
   refine Cw.seq (Cw.region (Lw.g (vB true) rfl (Lw.nil ?_)))
   cases hm
   exact Cw.ret (ret1 rfl (Res.mk a7 rfl))

theorem p53 {W : CW} {K : List Nat} {x0 : List Str} {v0_ : Value} {x1 : List Str} {v1_ : Value} {r : Bool} (h0 : Rd W K [v0_] x0) (h1 : Rd W K [v1_] x1) (hm : Vm.laws_eqStringS x0 x1 = some r) : CallR Tryd.prog 53 [v0_, v1_].toArray W.w (Res W [] fun W' v => v = vB r) :=
 (c53 (V := W.view K []) (h0.view _) (h1.view _) hm).ad (fk 0) fun _ _ e => e

theorem c75 {V : CW} {x0 : Vm.File} {v0_1_ : Value} {x1 : Vm.File} {v1_1_ : Value} {r : Bool} (h0 : Rd V [0] [vS x0.Path, v0_1_] x0) (h1 : Rd V [0] [vS x1.Path, v1_1_] x1) (hm : Vm.laws_eqFile x0 x1 = some r) : CallR Tryd.prog 75 [.agg [vS x0.Path, v0_1_].toArray, .agg [vS x1.Path, v1_1_].toArray].toArray V.w (Res V LL fun Wf v => v = vB r) := by
 unfold Vm.laws_eqFile at hm
 obtain ⟨w0_0, he0, h0_1⟩ := File.split h0
 simp only [List.cons.injEq, and_true, true_and] at he0
 obtain rfl := he0
 obtain ⟨w1_0, he1, h1_1⟩ := File.split h1
 simp only [List.cons.injEq, and_true, true_and] at he1
 obtain rfl := he1
 obtain ⟨W0, hW0⟩ : ∃ W, W = V := ⟨V, rfl⟩
 subst hW0
 refine CallR.of Tryd.func75 rfl rfl rfl rfl (Cw.seq (Cw.region (Lw.t rfl (T.box 2 (v := .agg [vS x0.Path, v0_1_].toArray) (cs := [vS x0.Path, v0_1_]) rfl rfl) ?_)))
 rintro _ _ ⟨g1, W1, rfl, rfl, l1, b1⟩
 have a2 := l1.o
 refine Lw.t rfl (T.box 3 (v := .agg [vS x1.Path, v1_1_].toArray) (cs := [vS x1.Path, v1_1_]) rfl rfl) ?_
 rintro _ _ ⟨g3, W3, rfl, rfl, l3, b3⟩
 have a4 := a2.n l3
 refine Lw.g (vB false) rfl (Lw.nil (Cw.seq (Cw.seq (Cw.region (Lw.fa rfl (Lw.r rfl (R.ld (v := vS x0.Path) rfl rfl ((b1.up l3 rfl).cell rfl)) (Lw.fa rfl (Lw.r rfl (R.ld (v := vS x1.Path) rfl rfl (b3.cell rfl)) (Lw.sne rfl (Lw.nil (Cw.cond (b := (x0.Path != x1.Path)) rfl (fun hc6 => ?_) (fun hc6 => ?_))))))))))))
 ·replace hm := bt hm hc6
  refine Cw.seq (Cw.region (Lw.g (vB false) rfl (Lw.nil ?_)))
  cases hm
  exact Cw.ret (ret1 rfl (Res.mk a4 rfl))
 ·replace hm := bf hm hc6
  refine Cw.skip (Cw.seq (Cw.seq (Cw.region (Lw.fa rfl (Lw.r rfl (R.ld (v := v0_1_) rfl rfl ((b1.up l3 rfl).cell rfl)) (Lw.fa rfl (Lw.r rfl (R.ld (v := v1_1_) rfl rfl (b3.cell rfl)) ?_)))))))
  obtain ⟨z9, e10, hm⟩ := ob hm
  refine Lw.t rfl (T.call rfl (p53 (K := [0])  (h0_1.ul a4) (h1_1.ul a4) e10)) ?_
  rintro _ _ ⟨W11, rfl, l11, rfl⟩
  have a12 := a4.n l11
  refine Lw.r rfl (R.not rfl) (Lw.nil (Cw.cond (b := (!z9)) rfl (fun hc15 => ?_) (fun hc15 => ?_)))
  ·replace hm := bt hm hc15
   refine Cw.seq (Cw.region (Lw.g (vB false) rfl (Lw.nil ?_)))
   cases hm
   exact Cw.ret (ret1 rfl (Res.mk a12 rfl))
  ·replace hm := bf hm hc15
   refine Cw.skip (Cw.seq (Cw.region (Lw.g (vB true) rfl (Lw.nil ?_))))
   cases hm
   exact Cw.ret (ret1 rfl (Res.mk a12 rfl))

theorem p75 {W : CW} {K : List Nat} {x0 : Vm.File} {v0_1_ : Value} {x1 : Vm.File} {v1_1_ : Value} {r : Bool} (h0 : Rd W K [vS x0.Path, v0_1_] x0) (h1 : Rd W K [vS x1.Path, v1_1_] x1) (hm : Vm.laws_eqFile x0 x1 = some r) : CallR Tryd.prog 75 [.agg [vS x0.Path, v0_1_].toArray, .agg [vS x1.Path, v1_1_].toArray].toArray W.w (Res W [] fun W' v => v = vB r) :=
 (c75 (V := W.view K []) (h0.view _) (h1.view _) hm).ad (fk 0) fun _ _ e => e

theorem c28 {V : CW} {x0 : List Vm.File} {v0_ : Value} {x1 : List Vm.File} {v1_ : Value} {r : Bool} (h0 : Rd V [0] [v0_] x0) (h1 : Rd V [0] [v1_] x1) (hm : Vm.laws_eqFileS x0 x1 = some r) : CallR Tryd.prog 28 [v0_, v1_].toArray V.w (Res V LL fun Wf v => v = vB r) := by
 unfold Vm.laws_eqFileS at hm
 obtain ⟨W0, hW0⟩ : ∃ W, W = V := ⟨V, rfl⟩
 subst hW0
 refine CallR.of Tryd.func28 rfl rfl rfl rfl (Cw.seq (Cw.region (Lw.g (vB false) rfl (Lw.nil (Cw.seq (Cw.seq (Cw.region (Lw.m v0_ rfl (Lw.ln x0 h0 rfl (Lw.m v1_ rfl (Lw.ln x1 h1 rfl (Lw.ne rfl (Lw.nil (Cw.cond (b := (((x0.length : Int) : Int) != ((x1.length : Int) : Int))) rfl (fun hc1 => ?_) (fun hc1 => ?_)))))))))))))))
 ·replace hm := bt hm hc1
  refine Cw.seq (Cw.region (Lw.g (vB false) rfl (Lw.nil ?_)))
  cases hm
  exact Cw.ret (ret1 rfl (Res.mk (Le.refl _ _) rfl))
 ·replace hm := bf hm hc1
  refine Cw.skip (Cw.seq (Cw.seq (Cw.region (Lw.g (vI 0) rfl (Lw.nil (Cw.block ?_))))))
  obtain ⟨K5, hK5, hm⟩ := jn_e hm
  refine Cw.loop 11 26 [4, 5] (fun m l w => ∃ (y2 : Bool) (y3 : Int) (W4 : CW), W4.w = w ∧ Le [] W0 W4 ∧ l = [vB y2, vI y3] ∧ Vm.laws_eqFileS_l1 x0 x1 K5 m y2 y3 = some r) (((x0.length : Int) - 0).toNat + 1) ⟨false, 0, W0, rfl, Le.refl _ _, rfl, hm⟩ ?_
  rintro m6 _ _ σ ⟨y2, y3, W4, rfl, l4, rfl, hm⟩
  obtain _ | m6 := m6
  ·cases hm
  unfold Vm.laws_eqFileS_l1 at hm
  have a7 := l4.o
  refine Cw.seq (Cw.seq (Cw.region (Lw.m (vI y3) rfl (Lw.m v0_ rfl (Lw.ln x0 (h0.ul a7) rfl (Lw.lt rfl (Lw.nil (Cw.cond (b := decide ((y3 : Int) < ((x0.length : Int) : Int))) rfl (fun hc9 => ?_) (fun hc9 => ?_)))))))))
  ·replace hm := bt hm hc9
   refine Cw.skip (Cw.seq (Cw.block (Cw.seq (Cw.draw [] [(0, 0), (1, 0), (2, 0), (3, 1), (4, 0), (5, 0), (6, 0), (7, 1), (8, 3), (9, 0)] mixed (by kernel_rfl) fun W10 l10 => ?_))))
   have a11 := a7.n l10
   refine Mw.p rfl rfl (fun _ => R.mv (v := v0_) rfl) (Mw.p rfl rfl (fun _ => R.mv (v := vI y3) rfl) ?_)
   obtain ⟨u12, e13, hm⟩ := ob hm
   refine Mw.p rfl rfl (fun _ => R.ix (α := File) (h0.ul a11) e13 rfl rfl rfl) ?_
   obtain ⟨x15, c16, _, r17⟩ := ((h0.ul a11).at_ e13).cells
   obtain ⟨v18, rfl, r19⟩ := File.split r17
   refine Mw.q rfl rfl (fun _ c => R.lda (cl_cells ((h0.ul a11).at_ e13).1 rfl c16 c) rfl rfl) (Mw.p rfl rfl (fun _ => R.mv (v := v1_) rfl) (Mw.p rfl rfl (fun _ => R.mv (v := vI y3) rfl) ?_))
   obtain ⟨u20, e21, hm⟩ := ob hm
   refine Mw.p rfl rfl (fun _ => R.ix (α := File) (h1.ul a11) e21 rfl rfl rfl) ?_
   obtain ⟨x23, c24, _, r25⟩ := ((h1.ul a11).at_ e21).cells
   obtain ⟨v26, rfl, r27⟩ := File.split r25
   refine Mw.q rfl rfl (fun _ c => R.lda (cl_cells ((h1.ul a11).at_ e21).1 rfl c24 c) rfl rfl) ?_
   obtain ⟨z28, e29, hm⟩ := ob hm
   refine Mw.l rfl rfl (T.call rfl (p75 (K := [0])  (File.rd (K := [0]) u12.Path u12.Text r19) (File.rd (K := [0]) u20.Path u20.Text r27) e29)) ?_
   rintro _ _ ⟨W30, rfl, l30, rfl⟩
   have a31 := a11.n l30
   refine Mw.p rfl rfl (fun _ => R.not rfl) (Mw.nil (Cw.cond (b := (!z28)) rfl (fun hc32 => ?_) (fun hc32 => ?_)))
   ·replace hm := bt hm hc32
    refine Cw.seq (Cw.region (Lw.g (vB false) rfl (Lw.nil ?_)))
    cases hm
    exact Cw.ret (ret1 rfl (Res.mk a31 rfl))
   ·replace hm := bf hm hc32
    refine Cw.skip (Cw.region (Lw.m (vI y3) rfl (Lw.add rfl (Lw.g (vI (w64 (y3 + 1))) rfl (Lw.nil (⟨?_, m6, Nat.lt_succ_self m6, ⟨y2, w64 (y3 + 1), W30, rfl, (l4.trans (l10.trans l30)), rfl, hm⟩⟩))))))
    iterate 19 (refine .u ?_)
    exact Agree.base
  ·replace hm := bf hm hc9
   refine Cw.exit ?_
   rw [hK5] at hm
   refine Cw.seq (Cw.region (Lw.g (vB true) rfl (Lw.nil ?_)))
   cases hm
   exact Cw.ret (ret1 rfl (Res.mk a7 rfl))

theorem p28 {W : CW} {K : List Nat} {x0 : List Vm.File} {v0_ : Value} {x1 : List Vm.File} {v1_ : Value} {r : Bool} (h0 : Rd W K [v0_] x0) (h1 : Rd W K [v1_] x1) (hm : Vm.laws_eqFileS x0 x1 = some r) : CallR Tryd.prog 28 [v0_, v1_].toArray W.w (Res W [] fun W' v => v = vB r) :=
 (c28 (V := W.view K []) (h0.view _) (h1.view _) hm).ad (fk 0) fun _ _ e => e

theorem c92 {V : CW} {x0 : Vm.Commit} {v0_0_ : Value} {v0_2_ : Value} {x1 : Vm.Commit} {v1_0_ : Value} {v1_2_ : Value} {r : Bool} (h0 : Rd V [0] [v0_0_, vS x0.Who, v0_2_] x0) (h1 : Rd V [0] [v1_0_, vS x1.Who, v1_2_] x1) (hm : Vm.laws_eqCommit x0 x1 = some r) : CallR Tryd.prog 92 [.agg [v0_0_, vS x0.Who, v0_2_].toArray, .agg [v1_0_, vS x1.Who, v1_2_].toArray].toArray V.w (Res V LL fun Wf v => v = vB r) := by
 unfold Vm.laws_eqCommit at hm
 obtain ⟨w0_0, w0_1, he0, h0_0, h0_2⟩ := Commit.split h0
 simp only [List.cons.injEq, and_true, true_and] at he0
 obtain ⟨rfl, rfl⟩ := he0
 obtain ⟨w1_0, w1_1, he1, h1_0, h1_2⟩ := Commit.split h1
 simp only [List.cons.injEq, and_true, true_and] at he1
 obtain ⟨rfl, rfl⟩ := he1
 obtain ⟨W0, hW0⟩ : ∃ W, W = V := ⟨V, rfl⟩
 subst hW0
 refine CallR.of Tryd.func92 rfl rfl rfl rfl (Cw.seq (Cw.region (Lw.t rfl (T.box 2 (v := .agg [v0_0_, vS x0.Who, v0_2_].toArray) (cs := [v0_0_, vS x0.Who, v0_2_]) rfl rfl) ?_)))
 rintro _ _ ⟨g1, W1, rfl, rfl, l1, b1⟩
 have a2 := l1.o
 refine Lw.t rfl (T.box 3 (v := .agg [v1_0_, vS x1.Who, v1_2_].toArray) (cs := [v1_0_, vS x1.Who, v1_2_]) rfl rfl) ?_
 rintro _ _ ⟨g3, W3, rfl, rfl, l3, b3⟩
 have a4 := a2.n l3
 refine Lw.g (vB false) rfl (Lw.nil (Cw.seq (Cw.seq (Cw.region (Lw.fa rfl (Lw.r rfl (R.ld (v := v0_0_) rfl rfl ((b1.up l3 rfl).cell rfl)) (Lw.fa rfl (Lw.r rfl (R.ld (v := v1_0_) rfl rfl (b3.cell rfl)) ?_))))))))
 obtain ⟨z8, e9, hm⟩ := ob hm
 refine Lw.t rfl (T.call rfl (p39 (K := [0])  (h0_0.ul a4) (h1_0.ul a4) e9)) ?_
 rintro _ _ ⟨W10, rfl, l10, rfl⟩
 have a11 := a4.n l10
 have b12 := (b1.up l3 rfl).up l10 rfl
 refine Lw.r rfl (R.not rfl) (Lw.nil (Cw.cond (b := (!z8)) rfl (fun hc14 => ?_) (fun hc14 => ?_)))
 ·replace hm := bt hm hc14
  refine Cw.seq (Cw.region (Lw.g (vB false) rfl (Lw.nil ?_)))
  cases hm
  exact Cw.ret (ret1 rfl (Res.mk a11 rfl))
 ·replace hm := bf hm hc14
  refine Cw.skip (Cw.seq (Cw.seq (Cw.region (Lw.fa rfl (Lw.r rfl (R.ld (v := vS x0.Who) rfl rfl (b12.cell rfl)) (Lw.fa rfl (Lw.r rfl (R.ld (v := vS x1.Who) rfl rfl ((b3.up l10 rfl).cell rfl)) (Lw.sne rfl (Lw.nil (Cw.cond (b := (x0.Who != x1.Who)) rfl (fun hc15 => ?_) (fun hc15 => ?_)))))))))))
  ·replace hm := bt hm hc15
   refine Cw.seq (Cw.region (Lw.g (vB false) rfl (Lw.nil ?_)))
   cases hm
   exact Cw.ret (ret1 rfl (Res.mk a11 rfl))
  ·replace hm := bf hm hc15
   refine Cw.skip (Cw.seq (Cw.seq (Cw.region (Lw.fa rfl (Lw.r rfl (R.ld (v := v0_2_) rfl rfl (b12.cell rfl)) (Lw.fa rfl (Lw.r rfl (R.ld (v := v1_2_) rfl rfl ((b3.up l10 rfl).cell rfl)) ?_)))))))
   obtain ⟨z18, e19, hm⟩ := ob hm
   refine Lw.t rfl (T.call rfl (p28 (K := [0])  (h0_2.ul a11) (h1_2.ul a11) e19)) ?_
   rintro _ _ ⟨W20, rfl, l20, rfl⟩
   have a21 := a11.n l20
   refine Lw.r rfl (R.not rfl) (Lw.nil (Cw.cond (b := (!z18)) rfl (fun hc24 => ?_) (fun hc24 => ?_)))
   ·replace hm := bt hm hc24
    refine Cw.seq (Cw.region (Lw.g (vB false) rfl (Lw.nil ?_)))
    cases hm
    exact Cw.ret (ret1 rfl (Res.mk a21 rfl))
   ·replace hm := bf hm hc24
    refine Cw.skip (Cw.seq (Cw.region (Lw.g (vB true) rfl (Lw.nil ?_))))
    cases hm
    exact Cw.ret (ret1 rfl (Res.mk a21 rfl))

theorem p92 {W : CW} {K : List Nat} {x0 : Vm.Commit} {v0_0_ : Value} {v0_2_ : Value} {x1 : Vm.Commit} {v1_0_ : Value} {v1_2_ : Value} {r : Bool} (h0 : Rd W K [v0_0_, vS x0.Who, v0_2_] x0) (h1 : Rd W K [v1_0_, vS x1.Who, v1_2_] x1) (hm : Vm.laws_eqCommit x0 x1 = some r) : CallR Tryd.prog 92 [.agg [v0_0_, vS x0.Who, v0_2_].toArray, .agg [v1_0_, vS x1.Who, v1_2_].toArray].toArray W.w (Res W [] fun W' v => v = vB r) :=
 (c92 (V := W.view K []) (h0.view _) (h1.view _) hm).ad (fk 0) fun _ _ e => e

theorem c40 {V : CW} {x0 : List Vm.Commit} {v0_ : Value} {x1 : List Vm.Commit} {v1_ : Value} {r : Bool} (h0 : Rd V [0] [v0_] x0) (h1 : Rd V [0] [v1_] x1) (hm : Vm.laws_eqCommitS x0 x1 = some r) : CallR Tryd.prog 40 [v0_, v1_].toArray V.w (Res V LL fun Wf v => v = vB r) := by
 unfold Vm.laws_eqCommitS at hm
 obtain ⟨W0, hW0⟩ : ∃ W, W = V := ⟨V, rfl⟩
 subst hW0
 refine CallR.of Tryd.func40 rfl rfl rfl rfl (Cw.seq (Cw.region (Lw.g (vB false) rfl (Lw.nil (Cw.seq (Cw.seq (Cw.region (Lw.m v0_ rfl (Lw.ln x0 h0 rfl (Lw.m v1_ rfl (Lw.ln x1 h1 rfl (Lw.ne rfl (Lw.nil (Cw.cond (b := (((x0.length : Int) : Int) != ((x1.length : Int) : Int))) rfl (fun hc1 => ?_) (fun hc1 => ?_)))))))))))))))
 ·replace hm := bt hm hc1
  refine Cw.seq (Cw.region (Lw.g (vB false) rfl (Lw.nil ?_)))
  cases hm
  exact Cw.ret (ret1 rfl (Res.mk (Le.refl _ _) rfl))
 ·replace hm := bf hm hc1
  refine Cw.skip (Cw.seq (Cw.seq (Cw.region (Lw.g (vI 0) rfl (Lw.nil (Cw.block ?_))))))
  obtain ⟨K5, hK5, hm⟩ := jn_e hm
  refine Cw.loop 11 26 [4, 5] (fun m l w => ∃ (y2 : Bool) (y3 : Int) (W4 : CW), W4.w = w ∧ Le [] W0 W4 ∧ l = [vB y2, vI y3] ∧ Vm.laws_eqCommitS_l1 x0 x1 K5 m y2 y3 = some r) (((x0.length : Int) - 0).toNat + 1) ⟨false, 0, W0, rfl, Le.refl _ _, rfl, hm⟩ ?_
  rintro m6 _ _ σ ⟨y2, y3, W4, rfl, l4, rfl, hm⟩
  obtain _ | m6 := m6
  ·cases hm
  unfold Vm.laws_eqCommitS_l1 at hm
  have a7 := l4.o
  refine Cw.seq (Cw.seq (Cw.region (Lw.m (vI y3) rfl (Lw.m v0_ rfl (Lw.ln x0 (h0.ul a7) rfl (Lw.lt rfl (Lw.nil (Cw.cond (b := decide ((y3 : Int) < ((x0.length : Int) : Int))) rfl (fun hc9 => ?_) (fun hc9 => ?_)))))))))
  ·replace hm := bt hm hc9
   refine Cw.skip (Cw.seq (Cw.block (Cw.seq (Cw.draw [] [(0, 0), (1, 0), (2, 0), (3, 1), (4, 0), (5, 0), (6, 0), (7, 1), (8, 3), (9, 0)] mixed (by kernel_rfl) fun W10 l10 => ?_))))
   have a11 := a7.n l10
   refine Mw.p rfl rfl (fun _ => R.mv (v := v0_) rfl) (Mw.p rfl rfl (fun _ => R.mv (v := vI y3) rfl) ?_)
   obtain ⟨u12, e13, hm⟩ := ob hm
   refine Mw.p rfl rfl (fun _ => R.ix (α := Commit) (h0.ul a11) e13 rfl rfl rfl) ?_
   obtain ⟨x15, c16, _, r17⟩ := ((h0.ul a11).at_ e13).cells
   obtain ⟨v18, v20, rfl, r19, r21⟩ := Commit.split r17
   refine Mw.q rfl rfl (fun _ c => R.lda (cl_cells ((h0.ul a11).at_ e13).1 rfl c16 c) rfl rfl) (Mw.p rfl rfl (fun _ => R.mv (v := v1_) rfl) (Mw.p rfl rfl (fun _ => R.mv (v := vI y3) rfl) ?_))
   obtain ⟨u22, e23, hm⟩ := ob hm
   refine Mw.p rfl rfl (fun _ => R.ix (α := Commit) (h1.ul a11) e23 rfl rfl rfl) ?_
   obtain ⟨x25, c26, _, r27⟩ := ((h1.ul a11).at_ e23).cells
   obtain ⟨v28, v30, rfl, r29, r31⟩ := Commit.split r27
   refine Mw.q rfl rfl (fun _ c => R.lda (cl_cells ((h1.ul a11).at_ e23).1 rfl c26 c) rfl rfl) ?_
   obtain ⟨z32, e33, hm⟩ := ob hm
   refine Mw.l rfl rfl (T.call rfl (p92 (K := [0])  (Commit.rd (K := [0]) u12.Parents u12.Who u12.Tree r19 r21) (Commit.rd (K := [0]) u22.Parents u22.Who u22.Tree r29 r31) e33)) ?_
   rintro _ _ ⟨W34, rfl, l34, rfl⟩
   have a35 := a11.n l34
   refine Mw.p rfl rfl (fun _ => R.not rfl) (Mw.nil (Cw.cond (b := (!z32)) rfl (fun hc36 => ?_) (fun hc36 => ?_)))
   ·replace hm := bt hm hc36
    refine Cw.seq (Cw.region (Lw.g (vB false) rfl (Lw.nil ?_)))
    cases hm
    exact Cw.ret (ret1 rfl (Res.mk a35 rfl))
   ·replace hm := bf hm hc36
    refine Cw.skip (Cw.region (Lw.m (vI y3) rfl (Lw.add rfl (Lw.g (vI (w64 (y3 + 1))) rfl (Lw.nil (⟨?_, m6, Nat.lt_succ_self m6, ⟨y2, w64 (y3 + 1), W34, rfl, (l4.trans (l10.trans l34)), rfl, hm⟩⟩))))))
    iterate 19 (refine .u ?_)
    exact Agree.base
  ·replace hm := bf hm hc9
   refine Cw.exit ?_
   rw [hK5] at hm
   refine Cw.seq (Cw.region (Lw.g (vB true) rfl (Lw.nil ?_)))
   cases hm
   exact Cw.ret (ret1 rfl (Res.mk a7 rfl))

theorem p40 {W : CW} {K : List Nat} {x0 : List Vm.Commit} {v0_ : Value} {x1 : List Vm.Commit} {v1_ : Value} {r : Bool} (h0 : Rd W K [v0_] x0) (h1 : Rd W K [v1_] x1) (hm : Vm.laws_eqCommitS x0 x1 = some r) : CallR Tryd.prog 40 [v0_, v1_].toArray W.w (Res W [] fun W' v => v = vB r) :=
 (c40 (V := W.view K []) (h0.view _) (h1.view _) hm).ad (fk 0) fun _ _ e => e

theorem c117 {V : CW} {x0 : Vm.Head} {x1 : Vm.Head} {r : Bool} (h0 : Rd V [0] [vS x0.Name, vI x0.At] x0) (h1 : Rd V [0] [vS x1.Name, vI x1.At] x1) (hm : Vm.laws_eqHead x0 x1 = some r) : CallR Tryd.prog 117 [.agg [vS x0.Name, vI x0.At].toArray, .agg [vS x1.Name, vI x1.At].toArray].toArray V.w (Res V LL fun Wf v => v = vB r) := by
 unfold Vm.laws_eqHead at hm
 obtain ⟨W0, hW0⟩ : ∃ W, W = V := ⟨V, rfl⟩
 subst hW0
 refine CallR.of Tryd.func117 rfl rfl rfl rfl (Cw.seq (Cw.region (Lw.t rfl (T.box 2 (v := .agg [vS x0.Name, vI x0.At].toArray) (cs := [vS x0.Name, vI x0.At]) rfl rfl) ?_)))
 rintro _ _ ⟨g1, W1, rfl, rfl, l1, b1⟩
 have a2 := l1.o
 refine Lw.t rfl (T.box 3 (v := .agg [vS x1.Name, vI x1.At].toArray) (cs := [vS x1.Name, vI x1.At]) rfl rfl) ?_
 rintro _ _ ⟨g3, W3, rfl, rfl, l3, b3⟩
 have a4 := a2.n l3
 refine Lw.g (vB false) rfl (Lw.nil (Cw.seq (Cw.seq (Cw.region (Lw.fa rfl (Lw.r rfl (R.ld (v := vS x0.Name) rfl rfl ((b1.up l3 rfl).cell rfl)) (Lw.fa rfl (Lw.r rfl (R.ld (v := vS x1.Name) rfl rfl (b3.cell rfl)) (Lw.sne rfl (Lw.nil (Cw.cond (b := (x0.Name != x1.Name)) rfl (fun hc6 => ?_) (fun hc6 => ?_))))))))))))
 ·replace hm := bt hm hc6
  refine Cw.seq (Cw.region (Lw.g (vB false) rfl (Lw.nil ?_)))
  cases hm
  exact Cw.ret (ret1 rfl (Res.mk a4 rfl))
 ·replace hm := bf hm hc6
  refine Cw.skip (Cw.seq (Cw.seq (Cw.region (Lw.fa rfl (Lw.r rfl (R.ld (v := vI x0.At) rfl rfl ((b1.up l3 rfl).cell rfl)) (Lw.fa rfl (Lw.r rfl (R.ld (v := vI x1.At) rfl rfl (b3.cell rfl)) (Lw.ne rfl (Lw.nil (Cw.cond (b := ((x0.At : Int) != (x1.At : Int))) rfl (fun hc7 => ?_) (fun hc7 => ?_)))))))))))
  ·replace hm := bt hm hc7
   refine Cw.seq (Cw.region (Lw.g (vB false) rfl (Lw.nil ?_)))
   cases hm
   exact Cw.ret (ret1 rfl (Res.mk a4 rfl))
  ·replace hm := bf hm hc7
   refine Cw.skip (Cw.seq (Cw.region (Lw.g (vB true) rfl (Lw.nil ?_))))
   cases hm
   exact Cw.ret (ret1 rfl (Res.mk a4 rfl))

theorem p117 {W : CW} {K : List Nat} {x0 : Vm.Head} {x1 : Vm.Head} {r : Bool} (h0 : Rd W K [vS x0.Name, vI x0.At] x0) (h1 : Rd W K [vS x1.Name, vI x1.At] x1) (hm : Vm.laws_eqHead x0 x1 = some r) : CallR Tryd.prog 117 [.agg [vS x0.Name, vI x0.At].toArray, .agg [vS x1.Name, vI x1.At].toArray].toArray W.w (Res W [] fun W' v => v = vB r) :=
 (c117 (V := W.view K []) (h0.view _) (h1.view _) hm).ad (fk 0) fun _ _ e => e

theorem c61 {V : CW} {x0 : List Vm.Head} {v0_ : Value} {x1 : List Vm.Head} {v1_ : Value} {r : Bool} (h0 : Rd V [0] [v0_] x0) (h1 : Rd V [0] [v1_] x1) (hm : Vm.laws_eqHeadS x0 x1 = some r) : CallR Tryd.prog 61 [v0_, v1_].toArray V.w (Res V LL fun Wf v => v = vB r) := by
 unfold Vm.laws_eqHeadS at hm
 obtain ⟨W0, hW0⟩ : ∃ W, W = V := ⟨V, rfl⟩
 subst hW0
 refine CallR.of Tryd.func61 rfl rfl rfl rfl (Cw.seq (Cw.region (Lw.g (vB false) rfl (Lw.nil (Cw.seq (Cw.seq (Cw.region (Lw.m v0_ rfl (Lw.ln x0 h0 rfl (Lw.m v1_ rfl (Lw.ln x1 h1 rfl (Lw.ne rfl (Lw.nil (Cw.cond (b := (((x0.length : Int) : Int) != ((x1.length : Int) : Int))) rfl (fun hc1 => ?_) (fun hc1 => ?_)))))))))))))))
 ·replace hm := bt hm hc1
  refine Cw.seq (Cw.region (Lw.g (vB false) rfl (Lw.nil ?_)))
  cases hm
  exact Cw.ret (ret1 rfl (Res.mk (Le.refl _ _) rfl))
 ·replace hm := bf hm hc1
  refine Cw.skip (Cw.seq (Cw.seq (Cw.region (Lw.g (vI 0) rfl (Lw.nil (Cw.block ?_))))))
  obtain ⟨K5, hK5, hm⟩ := jn_e hm
  refine Cw.loop 11 26 [4, 5] (fun m l w => ∃ (y2 : Bool) (y3 : Int) (W4 : CW), W4.w = w ∧ Le [] W0 W4 ∧ l = [vB y2, vI y3] ∧ Vm.laws_eqHeadS_l1 x0 x1 K5 m y2 y3 = some r) (((x0.length : Int) - 0).toNat + 1) ⟨false, 0, W0, rfl, Le.refl _ _, rfl, hm⟩ ?_
  rintro m6 _ _ σ ⟨y2, y3, W4, rfl, l4, rfl, hm⟩
  obtain _ | m6 := m6
  ·cases hm
  unfold Vm.laws_eqHeadS_l1 at hm
  have a7 := l4.o
  refine Cw.seq (Cw.seq (Cw.region (Lw.m (vI y3) rfl (Lw.m v0_ rfl (Lw.ln x0 (h0.ul a7) rfl (Lw.lt rfl (Lw.nil (Cw.cond (b := decide ((y3 : Int) < ((x0.length : Int) : Int))) rfl (fun hc9 => ?_) (fun hc9 => ?_)))))))))
  ·replace hm := bt hm hc9
   refine Cw.skip (Cw.seq (Cw.block (Cw.seq (Cw.draw [] [(0, 0), (1, 0), (2, 0), (3, 1), (4, 0), (5, 0), (6, 0), (7, 1), (8, 3), (9, 0)] mixed (by kernel_rfl) fun W10 l10 => ?_))))
   have a11 := a7.n l10
   refine Mw.p rfl rfl (fun _ => R.mv (v := v0_) rfl) (Mw.p rfl rfl (fun _ => R.mv (v := vI y3) rfl) ?_)
   obtain ⟨u12, e13, hm⟩ := ob hm
   refine Mw.p rfl rfl (fun _ => R.ix (α := Head) (h0.ul a11) e13 rfl rfl rfl) ?_
   obtain ⟨x15, c16, _, r17⟩ := ((h0.ul a11).at_ e13).cells
   obtain rfl := Head.split r17
   refine Mw.q rfl rfl (fun _ c => R.lda (cl_cells ((h0.ul a11).at_ e13).1 rfl c16 c) rfl rfl) (Mw.p rfl rfl (fun _ => R.mv (v := v1_) rfl) (Mw.p rfl rfl (fun _ => R.mv (v := vI y3) rfl) ?_))
   obtain ⟨u18, e19, hm⟩ := ob hm
   refine Mw.p rfl rfl (fun _ => R.ix (α := Head) (h1.ul a11) e19 rfl rfl rfl) ?_
   obtain ⟨x21, c22, _, r23⟩ := ((h1.ul a11).at_ e19).cells
   obtain rfl := Head.split r23
   refine Mw.q rfl rfl (fun _ c => R.lda (cl_cells ((h1.ul a11).at_ e19).1 rfl c22 c) rfl rfl) ?_
   obtain ⟨z24, e25, hm⟩ := ob hm
   refine Mw.l rfl rfl (T.call rfl (p117 (K := [0])  (Head.rd (K := [0]) u12.Name u12.At ) (Head.rd (K := [0]) u18.Name u18.At ) e25)) ?_
   rintro _ _ ⟨W26, rfl, l26, rfl⟩
   have a27 := a11.n l26
   refine Mw.p rfl rfl (fun _ => R.not rfl) (Mw.nil (Cw.cond (b := (!z24)) rfl (fun hc28 => ?_) (fun hc28 => ?_)))
   ·replace hm := bt hm hc28
    refine Cw.seq (Cw.region (Lw.g (vB false) rfl (Lw.nil ?_)))
    cases hm
    exact Cw.ret (ret1 rfl (Res.mk a27 rfl))
   ·replace hm := bf hm hc28
    refine Cw.skip (Cw.region (Lw.m (vI y3) rfl (Lw.add rfl (Lw.g (vI (w64 (y3 + 1))) rfl (Lw.nil (⟨?_, m6, Nat.lt_succ_self m6, ⟨y2, w64 (y3 + 1), W26, rfl, (l4.trans (l10.trans l26)), rfl, hm⟩⟩))))))
    iterate 19 (refine .u ?_)
    exact Agree.base
  ·replace hm := bf hm hc9
   refine Cw.exit ?_
   rw [hK5] at hm
   refine Cw.seq (Cw.region (Lw.g (vB true) rfl (Lw.nil ?_)))
   cases hm
   exact Cw.ret (ret1 rfl (Res.mk a7 rfl))

theorem p61 {W : CW} {K : List Nat} {x0 : List Vm.Head} {v0_ : Value} {x1 : List Vm.Head} {v1_ : Value} {r : Bool} (h0 : Rd W K [v0_] x0) (h1 : Rd W K [v1_] x1) (hm : Vm.laws_eqHeadS x0 x1 = some r) : CallR Tryd.prog 61 [v0_, v1_].toArray W.w (Res W [] fun W' v => v = vB r) :=
 (c61 (V := W.view K []) (h0.view _) (h1.view _) hm).ad (fk 0) fun _ _ e => e

theorem c19 {V : CW} {x0 : Vm.Repo} {v0_0_ : Value} {v0_1_ : Value} {x1 : Vm.Repo} {v1_0_ : Value} {v1_1_ : Value} {r : Bool} (h0 : Rd V [0] [v0_0_, v0_1_] x0) (h1 : Rd V [0] [v1_0_, v1_1_] x1) (hm : Vm.laws_eqRepo x0 x1 = some r) : CallR Tryd.prog 19 [.agg [v0_0_, v0_1_].toArray, .agg [v1_0_, v1_1_].toArray].toArray V.w (Res V LL fun Wf v => v = vB r) := by
 unfold Vm.laws_eqRepo at hm
 obtain ⟨w0_0, w0_1, he0, h0_0, h0_1⟩ := Repo.split h0
 simp only [List.cons.injEq, and_true, true_and] at he0
 obtain ⟨rfl, rfl⟩ := he0
 obtain ⟨w1_0, w1_1, he1, h1_0, h1_1⟩ := Repo.split h1
 simp only [List.cons.injEq, and_true, true_and] at he1
 obtain ⟨rfl, rfl⟩ := he1
 obtain ⟨W0, hW0⟩ : ∃ W, W = V := ⟨V, rfl⟩
 subst hW0
 refine CallR.of Tryd.func19 rfl rfl rfl rfl (Cw.seq (Cw.region (Lw.t rfl (T.box 2 (v := .agg [v0_0_, v0_1_].toArray) (cs := [v0_0_, v0_1_]) rfl rfl) ?_)))
 rintro _ _ ⟨g1, W1, rfl, rfl, l1, b1⟩
 have a2 := l1.o
 refine Lw.t rfl (T.box 3 (v := .agg [v1_0_, v1_1_].toArray) (cs := [v1_0_, v1_1_]) rfl rfl) ?_
 rintro _ _ ⟨g3, W3, rfl, rfl, l3, b3⟩
 have a4 := a2.n l3
 refine Lw.g (vB false) rfl (Lw.nil (Cw.seq (Cw.seq (Cw.region (Lw.fa rfl (Lw.r rfl (R.ld (v := v0_0_) rfl rfl ((b1.up l3 rfl).cell rfl)) (Lw.fa rfl (Lw.r rfl (R.ld (v := v1_0_) rfl rfl (b3.cell rfl)) ?_))))))))
 obtain ⟨z8, e9, hm⟩ := ob hm
 refine Lw.t rfl (T.call rfl (p40 (K := [0])  (h0_0.ul a4) (h1_0.ul a4) e9)) ?_
 rintro _ _ ⟨W10, rfl, l10, rfl⟩
 have a11 := a4.n l10
 refine Lw.r rfl (R.not rfl) (Lw.nil (Cw.cond (b := (!z8)) rfl (fun hc14 => ?_) (fun hc14 => ?_)))
 ·replace hm := bt hm hc14
  refine Cw.seq (Cw.region (Lw.g (vB false) rfl (Lw.nil ?_)))
  cases hm
  exact Cw.ret (ret1 rfl (Res.mk a11 rfl))
 ·replace hm := bf hm hc14
  refine Cw.skip (Cw.seq (Cw.seq (Cw.region (Lw.fa rfl (Lw.r rfl (R.ld (v := v0_1_) rfl rfl (((b1.up l3 rfl).up l10 rfl).cell rfl)) (Lw.fa rfl (Lw.r rfl (R.ld (v := v1_1_) rfl rfl ((b3.up l10 rfl).cell rfl)) ?_)))))))
  obtain ⟨z17, e18, hm⟩ := ob hm
  refine Lw.t rfl (T.call rfl (p61 (K := [0])  (h0_1.ul a11) (h1_1.ul a11) e18)) ?_
  rintro _ _ ⟨W19, rfl, l19, rfl⟩
  have a20 := a11.n l19
  refine Lw.r rfl (R.not rfl) (Lw.nil (Cw.cond (b := (!z17)) rfl (fun hc23 => ?_) (fun hc23 => ?_)))
  ·replace hm := bt hm hc23
   refine Cw.seq (Cw.region (Lw.g (vB false) rfl (Lw.nil ?_)))
   cases hm
   exact Cw.ret (ret1 rfl (Res.mk a20 rfl))
  ·replace hm := bf hm hc23
   refine Cw.skip (Cw.seq (Cw.region (Lw.g (vB true) rfl (Lw.nil ?_))))
   cases hm
   exact Cw.ret (ret1 rfl (Res.mk a20 rfl))

theorem p19 {W : CW} {K : List Nat} {x0 : Vm.Repo} {v0_0_ : Value} {v0_1_ : Value} {x1 : Vm.Repo} {v1_0_ : Value} {v1_1_ : Value} {r : Bool} (h0 : Rd W K [v0_0_, v0_1_] x0) (h1 : Rd W K [v1_0_, v1_1_] x1) (hm : Vm.laws_eqRepo x0 x1 = some r) : CallR Tryd.prog 19 [.agg [v0_0_, v0_1_].toArray, .agg [v1_0_, v1_1_].toArray].toArray W.w (Res W [] fun W' v => v = vB r) :=
 (c19 (V := W.view K []) (h0.view _) (h1.view _) hm).ad (fk 0) fun _ _ e => e

end Go.Sx
