/- Walks: each function answers as its model, printed by a program of ours. Conditions: the arguments read as they are given. -/
import Derived.Test.YtidkloialdageaaGreatDoorXTs
import Derived.Test.YtidkloialdageaaGreatDoorXM9
import Derived.Test.YtidkloialdageaaGreatDoorXW0
import Derived.Test.YtidkloialdageaaGreatDoorXW11
import Derived.Test.YtidkloialdageaaGreatDoorXW3
import Derived.Test.YtidkloialdageaaGreatDoorXW6
import Derived.Test.YtidkloialdageaaGreatDoorXW7
import Derived.Test.YtidkloialdageaaGreatDoorXW9
import Derived.Test.YtidkloialdageaaGreatDoorXE
namespace Go.Sx
open Go Go.Proofs Go.Vm Rp
set_option linter.unusedVariables false
set_option linter.unusedSimpArgs false

variable {W W0 : CW} {K : List Nat}
theorem c58 {x0 v0_ r} (h0 : Rd W0 [0] [v0_] x0) (hm : Vm.spec_DrawRepoBranch x0 = some r) : Q0 58 [v0_] W0 fun Wf v => ∃ u0_0 u0_1, v = .tuple [.agg [u0_0, u0_1].toArray, vS r.2.1, vI r.2.2].toArray ∧ OwS Wf [31] [] [u0_0] r.1.Commits ∧ OwS Wf [32] [] [u0_1] r.1.Heads := by
 unfold Vm.spec_DrawRepoBranch at hm
 refine CallR.of Tryz.func58 rfl rfl rfl rfl (sr (al 2 [.slice none 0 0, .slice none 0 0] fun g1 W1 l1 b1 => ?_))
 have a2 := l1.o
 refine Gs rfl (Ni rfl (sr (mv v0_ rfl (cr hm (fun _ => p81 (k0 := 3) (h0.ul a2)) ?_))))
 rintro z4 _ W6 hm l6 ⟨g0_6, v0_0_6, rfl, f6_0, f6_1⟩
 have s7 := f6_1.sub (M := [0]) rfl
 have a8 := a2.n l6
 refine Np rfl (sr (mp rfl (cr hm (fun _ => p82 (k0 := 4) (k1 := 5) (c0 := 3) (x0 := z4) f6_0 s7 rfl) ?_)))
 rintro z10 _ W12 hm l12 ⟨v0_0_12, v0_1_12, rfl, f12_0, f12_1, f12_2⟩
 have a13 := l12.s
 refine al 6 [.slice none 0 0, .slice none 0 0] fun g15 W15 l15 b15 => ?_
 have a16 := l15.o
 refine sta b15 (oc_cons (f12_0.up l15).oc (oc_cons (f12_1.up l15).oc oc_nil)) fun W21 l21 b21 => ?_
 have a22 := l21.s
 refine nl (Cw.seq (Cw.draw [2, 3] [(0, 1), (1, 0), (4, 0), (5, 1), (2, 2), (3, 2), (6, 2), (7, 2), (8, 0), (9, 0)] mixed (by kernel_rfl) fun W27 l27 => ?_))
 have a28 := l27.o
 refine Mw.q rfl rfl (fun _ c => R.lda (cs := [v0_0_12, v0_1_12]) ((b21.up l27).clcs rfl c) rfl rfl) (Dp rfl (Dp rfl (Mw.q rfl rfl (fun _ c => R.lda (cs := [v0_0_12, v0_1_12]) ((b21.up l27).clcs rfl c) rfl rfl) (Mw.t rfl rfl (T.bsS (α := Str) (xs := [([110, 101, 119] : Str), ([109, 97, 105, 110] : Str), ([111, 108, 100] : Str), ([] : Str)]) 7 [] (W := W27) [vS ([110, 101, 119] : Str), vS ([109, 97, 105, 110] : Str), vS ([111, 108, 100] : Str), vS ([] : Str)] (Each.cons ((rdS _)) (Each.cons ((rdS _)) (Each.cons ((rdS _)) (Each.cons ((rdS _)) Each.nil)))) rfl) ?_))))
 rintro v34 _ ⟨W34, rfl, l34, o34⟩
 have a35 := l34.o
 refine m0 l34 fun d34 => ?_
 obtain ⟨z42, e43, hm⟩ := ob hm
 refine Mw.t rfl rfl (T.call rfl (p102 (K := [0, 7])  (c0 := 3) (x0 := (Vm.l30Rd.mk z4.b z10.2)) ((((f12_2.up l15).up l21).up l27).up l34) ((s7.ul ((((a13.trans a16).trans a22).trans a28).trans a35)).sub (M := [0, 7]) rfl) (o34.rd.sub (M := [0, 7]) rfl) rfl e43)) ?_
 rintro _ _ ⟨W44, rfl, l44, ⟨rfl, f44_0⟩⟩
 have a45 := l44.s
 have o46 := ((((f12_0.up l15).up l21).up l27).up l34).up l44
 have o47 := ((((f12_1.up l15).up l21).up l27).up l34).up l44
 refine mc d34 l44 fun d44 => ?_
 obtain ⟨z52, e53, hm⟩ := ob hm
 refine Mw.t rfl rfl (T.call rfl (p83 (K := [0, 4, 5])  (c0 := 3) (x0 := (Vm.l30Rd.mk z4.b z42.2)) (x1 := (Vm.Repo.mk z10.1.Commits z10.1.Heads)) f44_0 ((s7.ul (((((a13.trans a16).trans a22).trans a28).trans a35).trans a45)).sub (M := [0, 4, 5]) rfl) ((Repo.rd (K := [4, 5]) z10.1.Commits z10.1.Heads (o46.rd.sub (M := [4, 5]) rfl) (o47.rd.sub (M := [4, 5]) rfl)).sub (M := [0, 4, 5]) rfl) rfl e53)) ?_
 rintro _ _ ⟨W54, rfl, l54, ⟨rfl, f54_0⟩⟩
 have a55 := ((((((a8.trans a13).trans a16).trans a22).trans a28).trans a35).trans a45).t l54
 refine mc d44 l54 fun d54 => Mw.tu rfl (T.sta (vs := [v0_0_12, v0_1_12]) ((((((((b1.up l6).up l12).up l15).up l21).up l27).up l34).up l44).up l54) rfl rfl (oc_cons (o46.up l54).oc (oc_cons (o47.up l54).oc oc_nil)) rfl rfl) ?_
 rintro _ _ ⟨W61, rfl, l61, b61⟩
 have a62 := a55.t l61
 refine mc d54 l61 fun d61 => Hs rfl (Hi rfl (Mw.nil ?_))
 obtain ⟨W68, ew68, l68, o68⟩ := ((o46.up l54).up l61).dyeO 31
 have a69 := a62.t l68
 obtain ⟨W75, ew75, l75, o75⟩ := (((o47.up l54).up l61).up l68).dyeO 32
 have a76 := a69.t l75
 cases hm
 rw [← ew75.trans (ew68)]
 exact Cw.ret (retG (ResOk.c rfl ((b61.up l68).up l75) (ResOk.t rfl (ResOk.t rfl ResOk.n))) (Res.mk a76 ⟨v0_0_12, v0_1_12, rfl, (o68.up l75).s, o75.s⟩))

theorem p58 {x0 v0_ k0 k1 r} (h0 : Rd W K [v0_] x0) (hm : Vm.spec_DrawRepoBranch x0 = some r) : Q1 58 [v0_] W [] fun W' v => ∃ u0_0 u0_1, v = .tuple [.agg [u0_0, u0_1].toArray, vS r.2.1, vI r.2.2].toArray ∧ Ow W' k0 [] [u0_0] r.1.Commits ∧ Ow W' k1 [] [u0_1] r.1.Heads :=
 CallR.adJ (J := []) (fun c => bif Nat.beq c 0 then 0 else bif Nat.beq c 31 then k0 else bif Nat.beq c 32 then k1 else 0) (c58 (h0.view _) hm) fun _ _ ⟨u0_0, u0_1, e, f0, f1⟩ => ⟨u0_0, u0_1, e, f0.one1.backN rfl, f1.one1.backN rfl⟩

theorem c157 {x0 v0_ x1 r} (h0 : Rd W0 [0] [v0_] x0) (h1 : Rd W0 [0] [vS x1.Name, vI x1.At] x1) (hm : Vm.impl_insertHead x0 x1 = some r) : Q0 157 [v0_, .agg [vS x1.Name, vI x1.At].toArray] W0 fun Wf v => ∃ u0, v = u0 ∧ OwS Wf LL [] [u0] r := by
 unfold Vm.impl_insertHead at hm
 refine CallR.of Tryz.func157 rfl rfl rfl rfl (sr (bo 2 rfl fun g1 W1 l1 b1 => ?_))
 have a2 := l1.o
 refine Nv (.slice none 0 0) rfl (sr (mv v0_ rfl (Lw.ln x0 (h0.ul a2) rfl (Ni rfl (Cw.seq (Cw.block ?_))))))
 obtain ⟨K6, hK6, hm⟩ := jn_e hm
 refine Cw.loop 8 22 [5] (fun m l w => ∃ y4 W5, CW.w W5 = w ∧ Le [] W1 W5 ∧ l = [vI y4] ∧ Vm.impl_insertHead_l1 x0 x1 K6 m y4 = some r) _ ⟨(x0.length : Int), W1, rfl, Le.refl _ _, rfl, hm⟩ ?_
 rintro (_ | m7) _ _ σ ⟨y4, W5, rfl, l5, rfl, hm⟩
 ·cases hm
 unfold Vm.impl_insertHead_l1 at hm
 have a8 := a2.n l5
 refine Cw.seq ?_
 obtain ⟨K12, hK12, hm⟩ := jn_e hm
 refine Cw.join 8 20 [20] (fun l w => ∃ y10 W11, CW.w W11 = w ∧ Le [] W5 W11 ∧ l = [vB y10] ∧ K12 y10 = some r) ?_ ?_
 ·rintro _ _ σ ⟨y10, W11, rfl, l11, rfl, hm⟩
  rw [hK12] at hm
  have a13 := a8.n l11
  refine cn hm (fun hm => ?_) fun hm => ?_
  ·exact sk (Cw.block (rg (mi rfl (Lw.sub rfl (Ni rfl ((agm) ⟨w64 (y4 - 1), W11, rfl, (l5.j l11).w, rfl, hm⟩))))))
  ·refine Cw.exit ?_
   rw [hK6] at hm
   refine Cw.seq ?_
   obtain ⟨q22, e23, hm⟩ := ob hm
   obtain ⟨z32, e33, hm⟩ := ob hm
   refine Cw.par [[], [], [0, 1], [], [], [4], [0, 1, 2, 3, 4, 5], [0, 1, 2, 3, 4, 5, 6]] [[], [], [0, 1], [], [], [4], [2, 3, 5], [6]] [[], [], [3], [], [], [], [3], []] [[0], [1], [2], [3], [4], [5], [6], [6, 7]] [[3], [], [3], [], [], [4], [5], []] [1, 3, 4, 5, 6, 7] [3] [fun vs W => Ow W 3 [] [(vs 0)] ([] : List Head), fun vs W => (vs 1) = v0_, fun vs W => Ow W 3 [] [(vs 2)] q22, fun vs W => (vs 3) = vI y4, fun vs W => (vs 4) = .agg [vS x1.Name, vI x1.At].toArray, fun vs W => (vs 5) = .slice (some (bx (pg (vs 5)))) 1 1 ∧ Bx W 4 (pg (vs 5)) [vS x1.Name, vI x1.At], fun vs W => Ow W 5 [] [(vs 6)] z32, fun vs W => (vs 7) = (vs 6)] [] mixed (by kernel_rfl) rfl AllF.nil ?_
   intro W38 l38
   have a39 := a13.n l38
   refine ⟨(Steps.cons ?_ (Steps.cons ?_ (Steps.cons ?_ (Steps.cons ?_ (Steps.cons ?_ (Steps.cons ?_ (Steps.cons ?_ (Steps.cons ?_ Steps.nil)))))))), (Sups.cons (fun vs vs' W W' _ hv l hd h => by (show Ow W' 3 [] [(vs' 0)] ([] : List Head)); rw [hv 0 (anyb rfl)]; exact h.upv l (disj_mem hd (c := 3) rfl)) (Sups.cons (fun vs vs' W W' _ hv l hd h => by (show (vs' 1) = v0_); rw [hv 1 (anyb rfl)]; exact h) (Sups.cons (fun vs vs' W W' _ hv l hd h => by (show Ow W' 3 [] [(vs' 2)] q22); rw [hv 2 (anyb rfl)]; exact h.upv l (disj_mem hd (c := 3) rfl)) (Sups.cons (fun vs vs' W W' _ hv l hd h => by (show (vs' 3) = vI y4); rw [hv 3 (anyb rfl)]; exact h) (Sups.cons (fun vs vs' W W' _ hv l hd h => by (show (vs' 4) = .agg [vS x1.Name, vI x1.At].toArray); rw [hv 4 (anyb rfl)]; exact h) (Sups.cons (fun vs vs' W W' _ hv l hd h => by (show (vs' 5) = .slice (some (bx (pg (vs' 5)))) 1 1 ∧ Bx W' 4 (pg (vs' 5)) [vS x1.Name, vI x1.At]); rw [hv 5 (anyb rfl)]; exact ⟨h.1, h.2.up l (disj_mem hd (c := 4) rfl)⟩) (Sups.cons (fun vs vs' W W' _ hv l hd h => by (show Ow W' 5 [] [(vs' 6)] z32); rw [hv 6 (anyb rfl)]; exact h.upv l (disj_mem hd (c := 5) rfl)) (Sups.cons (fun vs vs' W W' _ hv l hd h => by (show (vs' 7) = (vs' 6)); rw [hv 6 (anyb rfl), hv 7 (anyb rfl)]; exact h) Sups.nil)))))))), ?_⟩
   ·intro vs W lW hN
    obtain ⟨W41, hW41⟩ : ∃ X, X = W := ⟨W, rfl⟩
    subst hW41
    refine Tr.mono (T.lit0 (α := Head) 3 []) ?_
    rintro v44 _ ⟨W44, rfl, l44, o44⟩
    exact ⟨W44, rfl, l44, (show Ow W44 3 [] [v44] ([] : List Head) from o44)⟩
   ·intro vs W lW hN
    obtain ⟨W47, hW47⟩ : ∃ X, X = W := ⟨W, rfl⟩
    subst hW47
    refine Tr.mono (Run.tr (R.mv (v := v0_) rfl)) ?_
    rintro _ _ ⟨hu, rfl⟩
    obtain rfl := hu.symm
    exact ⟨W47, rfl, Le.refl _ _, (show (v0_ : Value) = v0_ from rfl)⟩
   ·intro vs W lW hN
    obtain ⟨W50, hW50⟩ : ∃ X, X = W := ⟨W, rfl⟩
    subst hW50
    have a51 := a39.t lW rfl
    obtain ⟨pv0, e0_⟩ : ∃ v, vs 0 = v := ⟨_, rfl⟩
    obtain ⟨vs, rfl⟩ := up_eq e0_
    have o53 : Ow W50 3 [] [pv0] ([] : List Head) := (hN 0 (anyb rfl))
    have e1_ : vs 1 = v0_ := (hN 1 (anyb rfl))
    obtain ⟨vs, rfl⟩ := up_eq e1_
    refine Tr.mono (T.appP (α := Head) o53 (h0.ul a51) rfl rfl e23) ?_
    rintro v54 _ ⟨W54, rfl, l54, o54⟩
    exact ⟨W54, rfl, l54, (show Ow W54 3 [] [v54] q22 from o54)⟩
   ·intro vs W lW hN
    obtain ⟨W58, hW58⟩ : ∃ X, X = W := ⟨W, rfl⟩
    subst hW58
    refine Tr.mono (Run.tr (R.mv (v := vI y4) rfl)) ?_
    rintro _ _ ⟨hu, rfl⟩
    obtain rfl := hu.symm
    exact ⟨W58, rfl, Le.refl _ _, (show (vI y4 : Value) = vI y4 from rfl)⟩
   ·intro vs W lW hN
    obtain ⟨W61, hW61⟩ : ∃ X, X = W := ⟨W, rfl⟩
    subst hW61
    refine Tr.mono (Run.tr (R.lda (cs := [vS x1.Name, vI x1.At]) ((((b1.up l5).up l11).up l38).up lW rfl).cells rfl rfl)) ?_
    rintro _ _ ⟨hu, rfl⟩
    obtain rfl := hu.symm
    exact ⟨W61, rfl, Le.refl _ _, (show (.agg [vS x1.Name, vI x1.At].toArray : Value) = .agg [vS x1.Name, vI x1.At].toArray from rfl)⟩
   ·intro vs W lW hN
    obtain ⟨W64, hW64⟩ : ∃ X, X = W := ⟨W, rfl⟩
    subst hW64
    have e4_ : vs 4 = .agg [vS x1.Name, vI x1.At].toArray := (hN 4 (anyb rfl))
    obtain ⟨vs, rfl⟩ := up_eq e4_
    refine Tr.mono (T.bs 4 [.agg [vS x1.Name, vI x1.At].toArray] (cs := [vS x1.Name, vI x1.At]) rfl rfl (bsA rfl)) ?_
    rintro _ _ ⟨g67, W67, rfl, rfl, l67, b67⟩
    exact ⟨W67, rfl, l67, (show (.slice (some (bx g67)) 1 1 : Value) = .slice (some (bx g67)) 1 1 ∧ Bx W67 4 g67 [vS x1.Name, vI x1.At] from ⟨rfl, b67⟩)⟩
   ·intro vs W lW hN
    obtain ⟨W70, hW70⟩ : ∃ X, X = W := ⟨W, rfl⟩
    subst hW70
    obtain ⟨pv2, e2_⟩ : ∃ v, vs 2 = v := ⟨_, rfl⟩
    obtain ⟨vs, rfl⟩ := up_eq e2_
    have o73 : Ow W70 3 [] [pv2] q22 := (hN 2 (anyb rfl))
    have e3_ : vs 3 = vI y4 := (hN 3 (anyb rfl))
    obtain ⟨vs, rfl⟩ := up_eq e3_
    obtain ⟨pg5, e5_⟩ : ∃ pg5, vs 5 = .slice (some (bx pg5)) 1 1 := ⟨_, ((hN 5 (anyb rfl))).1⟩
    obtain ⟨vs, rfl⟩ := up_eq e5_
    have o74 : Bx W70 4 pg5 [vS x1.Name, vI x1.At] := (hN 5 (anyb rfl)).2
    refine Tr.mono (T.call rfl (p173 (k0 := 5) (c0 := 3) o73 o74 (Head.rd (K := [0]) x1.Name x1.At ) rfl rfl e33)) ?_
    rintro v0_75 _ ⟨W75, rfl, l75, ⟨_, rfl, f75_0⟩⟩
    exact ⟨W75, rfl, l75, (show Ow W75 5 [] [v0_75] z32 from f75_0)⟩
   ·intro vs W lW hN
    obtain ⟨W79, hW79⟩ : ∃ X, X = W := ⟨W, rfl⟩
    subst hW79
    obtain ⟨pv6, e6_⟩ : ∃ v, vs 6 = v := ⟨_, rfl⟩
    obtain ⟨vs, rfl⟩ := up_eq e6_
    have o82 : Ow W79 5 [] [pv6] z32 := (hN 6 (anyb rfl))
    refine Tr.mono (Run.tr (R.as (v := pv6) rfl)) ?_
    rintro _ _ ⟨hu, rfl⟩
    obtain rfl := hu.symm
    exact ⟨W79, rfl, Le.refl _ _, (show (pv6 : Value) = pv6 from rfl)⟩
   ·intro vs W lW hN
    obtain ⟨W83, hW83⟩ : ∃ X, X = W := ⟨W, rfl⟩
    subst hW83
    have a84 := a39.t lW rfl
    obtain ⟨l83, hl83⟩ : ∃ x, x = lW := ⟨lW, rfl⟩
    have e1_ : vs 1 = v0_ := (hN 1 (anyb rfl))
    obtain ⟨vs, rfl⟩ := up_eq e1_
    have e3_ : vs 3 = vI y4 := (hN 3 (anyb rfl))
    obtain ⟨vs, rfl⟩ := up_eq e3_
    have e4_ : vs 4 = .agg [vS x1.Name, vI x1.At].toArray := (hN 4 (anyb rfl))
    obtain ⟨vs, rfl⟩ := up_eq e4_
    obtain ⟨pg5, e5_⟩ : ∃ pg5, vs 5 = .slice (some (bx pg5)) 1 1 := ⟨_, ((hN 5 (anyb rfl))).1⟩
    obtain ⟨vs, rfl⟩ := up_eq e5_
    have o86 : Bx W83 4 pg5 [vS x1.Name, vI x1.At] := (hN 5 (anyb rfl)).2
    obtain ⟨pv6, e6_⟩ : ∃ v, vs 6 = v := ⟨_, rfl⟩
    obtain ⟨vs, rfl⟩ := up_eq e6_
    have o87 : Ow W83 5 [] [pv6] z32 := (hN 6 (anyb rfl))
    have e7_ : vs 7 = pv6 := (hN 7 (anyb rfl))
    obtain ⟨vs, rfl⟩ := up_eq e7_
    cases hm
    exact Cw.ret (ret1 rfl (Res.mk a84 ⟨pv6, rfl, o87.s.sub rfl rfl⟩))
 ·refine Cw.draw [] [(0, 0), (1, 0), (2, 0), (3, 0), (4, 0), (5, 0), (6, 0), (7, 0), (8, 1), (9, 0), (10, 1), (11, 0), (12, 0)] mixed (by kernel_rfl) fun W88 l88 => ?_
  have a89 := a8.n l88
  refine Di rfl (Mw.p rfl rfl (fun _ => R.gt rfl rfl) (Db rfl (bs hm (fun hc91 hm => ?_) fun hc91 hm => ?_)))
  ·refine Wp hc91 rfl (fun _ => R.mv (v := v0_) rfl) (Wp hc91 rfl (fun _ => R.mv (v := vI y4) rfl) (Wp hc91 rfl (fun _ => R.sub rfl rfl) ?_))
   obtain ⟨u92, e93, hm⟩ := ob hm
   exact Wp hc91 rfl (fun _ => R.ix (α := Head) (h0.ul a89) e93 rfl rfl rfl) (Wp hc91 rfl (fun _ => R.fa rfl) (Wq hc91 rfl (fun _ c => R.ld rfl rfl (cl_cell (Head.at0 ((h0.ul a89).at_ e93)).1 rfl (Head.at0 ((h0.ul a89).at_ e93)).str c)) (Wp hc91 rfl (fun _ => R.fa rfl) (Wq hc91 rfl (fun _ c => R.ld (v := vS x1.Name) rfl rfl (((b1.up l5).up l88).clc rfl rfl c)) (Wp hc91 rfl (fun _ => R.sgt rfl rfl) (Mw.p rfl rfl (fun _ => R.pk hc91 rfl (v := vB (!(Op.bytesLess u92.Name x1.Name || u92.Name == x1.Name))) rfl) (Mw.nil ((ag) ⟨(!(Op.bytesLess u92.Name x1.Name || u92.Name == x1.Name)), W88, rfl, l88, rfl, hm⟩))))))))
  ·exact dps 9 hc91 rfl (Mw.p rfl rfl (fun _ => R.pk hc91 rfl (v := vB false) rfl) (Mw.nil ((ag) ⟨false, W88, rfl, l88, rfl, hm⟩)))

theorem p157 {x0 v0_ x1 k0 r} (h0 : Rd W K [v0_] x0) (h1 : Rd W K [vS x1.Name, vI x1.At] x1) (hm : Vm.impl_insertHead x0 x1 = some r) : Q1 157 [v0_, .agg [vS x1.Name, vI x1.At].toArray] W [] fun W' v => ∃ u0, v = u0 ∧ Ow W' k0 [] [u0] r :=
 (c157 (h0.view _) (h1.view _) hm).ad (fk k0) fun _ _ ⟨u0, e, f0⟩ => ⟨u0, e, f0.back (fk_LL _)⟩

theorem c128 {x0 v0_0_ v0_1_ x1 x2 r} (h0_0 : Ow W0 2 [] [v0_0_] x0.Commits) (h0_1 : Ow W0 3 [] [v0_1_] x0.Heads) (hm : Vm.impl_Repo_point x0 x1 x2 = some r) : Q0 128 [.agg [v0_0_, v0_1_].toArray, vS x1, vI x2] W0 fun Wf v => ∃ u0_0 u0_1, v = .agg [u0_0, u0_1].toArray ∧ OwS Wf [31] [] [u0_0] r.Commits ∧ OwS Wf [32] [] [u0_1] r.Heads := by
 unfold Vm.impl_Repo_point at hm
 refine CallR.of Tryz.func128 rfl rfl rfl rfl (sr (bo 4 rfl fun g1 W1 l1 b1 => ?_))
 have a2 := l1.o
 refine al 5 [.slice none 0 0, .slice none 0 0] fun g5 W5 l5 b5 => ?_
 have a6 := a2.n l5
 have o8 := (h0_1.up l1).up l5
 refine nl (ssr (fl (b1.up l5) rfl (Lw.ln x0.Heads o8.rd rfl (mi rfl (nl (Cw.block ?_))))))
 obtain ⟨K22, hK22, hm⟩ := jn_e hm
 refine Cw.loop 11 29 [7, 11] (fun m l w => ∃ y11 y12 y15 y19 j10 v13 v16 W21, CW.w W21 = w ∧ Le [] W5 W21 ∧ l = [j10, vI y11] ∧ Ow W21 6 [] [v13] y12 ∧ Ow W21 7 [] [v16] y15 ∧ Bx W21 5 g5 [v13, v16] ∧ Ow W21 3 [] [v0_1_] y19 ∧ Vm.impl_Repo_point_l1 x0 x1 x2 K22 m y11 y12 y15 y19 = some r) _ ⟨0, ([] : List Commit), ([] : List Head), x0.Heads, undef, .slice none 0 0, .slice none 0 0, W5, rfl, Le.refl _ _, rfl, owN 6 [], owN 7 [], b5, o8, hm⟩ ?_
 rintro (_ | m23) _ _ σ ⟨y11, y12, y15, y19, j10, v13, v16, W21, rfl, l21, rfl, o14, o17, b18, o20, hm⟩
 ·cases hm
 unfold Vm.impl_Repo_point_l1 at hm
 have a24 := a6.n l21
 have o25 := ((h0_0.up l1).up l5).up l21
 have b26 := (b1.up l5).up l21
 refine sr (Lw.lt rfl (nl (Cw.seq (cn hm (fun hm => ?_) fun hm => ?_))))
 ·refine sk (Cw.seq (Cw.block (sr (mi rfl (Ni rfl (sr (fl b26 rfl (mi rfl ?_))))))))
  obtain ⟨u28, e29, hm⟩ := ob hm
  refine Lw.r rfl (R.ix (α := Head) o20.rd e29 rfl rfl rfl) (Lw.fa rfl (Lw.r rfl (R.ld rfl rfl (Head.at0 (o20.rd.at_ e29)).str) (ms rfl (Lw.seq rfl (nl (cn hm (fun hm => ?_) fun hm => ?_))))))
  ·refine sr (fl b26 rfl (mi rfl (mi rfl ?_)))
   obtain ⟨u31, e32, hm⟩ := ob hm
   refine Lw.r rfl (R.ix (α := Head) o20.rd e32 rfl rfl rfl) (Lw.fa rfl ?_)
   obtain ⟨q34, e35, hm⟩ := ob hm
   refine Lw.u (T.stH (α := Head) (β := Int) (J := []) (Ow.hole (α := Head) (β := Int) (jf := 1) o20 e32) (OwS.atm (K := []) (rdI _)) e35 rfl rfl rfl rfl) ?_
   rintro _ _ ⟨W33, rfl, l33, o33⟩
   have a36 := a24.t l33
   refine nl (sr (la (b26.up l33) (sta (b18.up l33) (oc_cons (o25.up l33).oc (oc_cons o33.oc oc_nil)) fun W42 l42 b42 => ?_)))
   have a43 := a36.t l42
   refine nl ?_
   obtain ⟨W49, ew49, l49, o49⟩ := ((o25.up l33).up l42).dyeO 31
   have a50 := a43.t l49
   obtain ⟨W56, ew56, l56, o56⟩ := ((o33.up l42).up l49).dyeO 32
   have a57 := a50.t l56
   cases hm
   rw [← ew56.trans (ew49)]
   exact Cw.ret (retA1 rfl ((b42.up l49).up l56) (Res.mk a57 ⟨v0_0_, v0_1_, rfl, (o49.up l56).s, o56.s⟩))
  ·exact sk (rg (Lw.add rfl (mi rfl (nl ((agm) ⟨w64 (y11 + 1), y12, y15, y19, vI y11, v13, v16, W21, rfl, l21, rfl, o14, o17, b18, o20, hm⟩)))))
 ·refine Cw.exit ?_
  rw [hK22] at hm
  refine sr (fl b26 rfl (ms rfl (mi rfl (Lw.r rfl (R.bd (zs := [vS ([] : Str), vI 0]) (cs := [vS x1, vI x2]) [(0, vS x1), (1, vI x2)] rfl rfl rfl (bp_cons rfl rfl (bp_cons rfl rfl bp_nil))) (cr hm (fun _ => p157 (K := [0, 3]) (k0 := 8) (x1 := (Vm.Head.mk x1 x2)) (o20.rd.sub (M := [0, 3]) rfl) ((Head.rd (K := [0]) x1 x2 ).sub (M := [0, 3]) rfl)) ?_)))))
  rintro z63 v0_65 W65 hm l65 ⟨_, rfl, f65_0⟩
  have a66 := a24.n l65
  refine Lw.fa rfl (Lw.u (T.st (j := 1) (v := v0_65) (b26.up l65) rfl rfl f65_0.oc rfl rfl) ?_)
  rintro _ _ ⟨W73, rfl, l73, b73⟩
  have a74 := a66.t l73
  have o75 := (o25.up l65).up l73
  refine nl (sr (la b73 (sta ((b18.up l65).up l73) (oc_cons o75.oc (oc_cons (f65_0.up l73).oc oc_nil)) fun W81 l81 b81 => ?_)))
  have a82 := a74.t l81
  refine nl ?_
  obtain ⟨W89, ew89, l89, o89⟩ := (o75.up l81).dyeO 31
  have a90 := a82.t l89
  obtain ⟨W97, ew97, l97, o97⟩ := (((f65_0.up l73).up l81).up l89).dyeO 32
  have a98 := a90.t l97
  cases hm
  rw [← ew97.trans (ew89)]
  exact Cw.ret (retA1 rfl ((b81.up l89).up l97) (Res.mk a98 ⟨v0_0_, v0_65, rfl, (o89.up l97).s, o97.s⟩))

theorem p128 {x0 v0_0_ v0_1_ x1 x2 k0 k1 c0 c1 r} (h0_0 : Ow W c0 [] [v0_0_] x0.Commits) (h0_1 : Ow W c1 [] [v0_1_] x0.Heads) (hJ : okJ K [c0, c1] = true) (hm : Vm.impl_Repo_point x0 x1 x2 = some r) : Q1 128 [.agg [v0_0_, v0_1_].toArray, vS x1, vI x2] W [c0, c1] fun W' v => ∃ u0_0 u0_1, v = .agg [u0_0, u0_1].toArray ∧ Ow W' k0 [] [u0_0] r.Commits ∧ Ow W' k1 [] [u0_1] r.Heads :=
 CallR.adJ (J := [c0, c1]) (fun c => bif Nat.beq c 0 then 0 else bif Nat.beq c 2 then c0 else bif Nat.beq c 3 then c1 else bif Nat.beq c 31 then k0 else bif Nat.beq c 32 then k1 else 0) (c128 (h0_0.viewJ 0 hJ) (h0_1.viewJ 1 hJ) hm) fun _ _ ⟨u0_0, u0_1, e, f0, f1⟩ => ⟨u0_0, u0_1, e, f0.one1.backN rfl, f1.one1.backN rfl⟩

theorem c127 {x0 v0_0_ v0_1_ x1 v1_0_ v1_1_ r} (h0 : Rd W0 [0] [v0_0_, v0_1_] x0) (h1_0 : Ow W0 2 [] [v1_0_] x1.Commits) (h1_1 : Ow W0 3 [] [v1_1_] x1.Heads) (h99 : Gl 0 W0 [0]) (hm : Vm.impl_Repo_tried x0 x1 = some r) : Q0 127 [.agg [v0_0_, v0_1_].toArray, .agg [v1_0_, v1_1_].toArray] W0 fun Wf v => ∃ u0_0 u0_1, v = .tuple [.agg [u0_0, u0_1].toArray, vB r.2].toArray ∧ OwS Wf [31] [] [u0_0] r.1.Commits ∧ OwS Wf [32] [] [u0_1] r.1.Heads := by
 unfold Vm.impl_Repo_tried at hm
 obtain ⟨w0_0, w0_1, he0, h0_0, h0_1⟩ := Repo.split h0
 simp only [List.cons.injEq, and_true, true_and] at he0
 obtain ⟨rfl, rfl⟩ := he0
 refine CallR.of Tryz.func127 rfl rfl rfl rfl (sr (bo 4 rfl fun g1 W1 l1 b1 => ?_))
 have a2 := l1.o
 refine bo 5 rfl fun g5 W5 l5 b5 => ?_
 have a6 := a2.n l5
 refine al 6 [.slice none 0 0, .slice none 0 0] fun g10 W10 l10 b10 => ?_
 have a11 := a6.n l10
 have o12 := ((h1_0.up l1).up l5).up l10
 have o13 := ((h1_1.up l1).up l5).up l10
 refine Nb rfl (ssr (la (b5.up l10) (ca hm (fun _ => p19 (K := [0, 2, 3]) (x0 := (Vm.Repo.mk x1.Commits x1.Heads)) ((Repo.rd (K := [2, 3]) x1.Commits x1.Heads (o12.rd.sub (M := [2, 3]) rfl) (o13.rd.sub (M := [2, 3]) rfl)).sub (M := [0, 2, 3]) rfl) ((h99.ul a11).sub (M := [0, 2, 3]) rfl)) fun z17 W19 hm l19 => ?_)))
 have a20 := a11.n l19
 refine Lw.r rfl (R.not rfl) (nl (cn hm (fun hm => ?_) fun hm => ?_))
 ·refine sr (la (((b1.up l5).up l10).up l19) (cr hm (fun _ => p71 (k0 := 7) (k1 := 8) (Repo.rd (K := [0]) x0.Commits x0.Heads (h0_0.ul a20) (h0_1.ul a20))) ?_))
  rintro z29 _ W31 hm l31 ⟨v0_0_31, v0_1_31, rfl, f31_0, f31_1⟩
  have a32 := a20.n l31
  refine sta ((b10.up l19).up l31) (oc_cons f31_0.oc (oc_cons f31_1.oc oc_nil)) fun W38 l38 b38 => ?_
  have a39 := a32.t l38
  refine Nb rfl ?_
  obtain ⟨W46, ew46, l46, o46⟩ := (f31_0.up l38).dyeO 31
  have a47 := a39.t l46
  obtain ⟨W54, ew54, l54, o54⟩ := ((f31_1.up l38).up l46).dyeO 32
  have a55 := a47.t l54
  cases hm
  rw [← ew54.trans (ew46)]
  exact Cw.ret (retA2 rfl ((b38.up l46).up l54) rfl (Res.mk a55 ⟨v0_0_31, v0_1_31, rfl, (o46.up l54).s, o54.s⟩))
 ·refine sk (sr (la ((b5.up l10).up l19) (sta (b10.up l19) (oc_cons (o12.up l19).oc (oc_cons (o13.up l19).oc oc_nil)) fun W62 l62 b62 => ?_)))
  have a63 := a20.t l62
  refine Nb rfl ?_
  obtain ⟨W68, ew68, l68, o68⟩ := ((o12.up l19).up l62).dyeO 31
  have a69 := a63.t l68
  obtain ⟨W74, ew74, l74, o74⟩ := (((o13.up l19).up l62).up l68).dyeO 32
  have a75 := a69.t l74
  cases hm
  rw [← ew74.trans (ew68)]
  exact Cw.ret (retA2 rfl ((b62.up l68).up l74) rfl (Res.mk a75 ⟨v1_0_, v1_1_, rfl, (o68.up l74).s, o74.s⟩))

theorem p127 {x0 v0_0_ v0_1_ x1 v1_0_ v1_1_ k0 k1 c0 c1 r} (h0 : Rd W K [v0_0_, v0_1_] x0) (h1_0 : Ow W c0 [] [v1_0_] x1.Commits) (h1_1 : Ow W c1 [] [v1_1_] x1.Heads) (h99 : Gl 0 W K) (hJ : okJ K [c0, c1] = true) (hm : Vm.impl_Repo_tried x0 x1 = some r) : Q1 127 [.agg [v0_0_, v0_1_].toArray, .agg [v1_0_, v1_1_].toArray] W [c0, c1] fun W' v => ∃ u0_0 u0_1, v = .tuple [.agg [u0_0, u0_1].toArray, vB r.2].toArray ∧ Ow W' k0 [] [u0_0] r.1.Commits ∧ Ow W' k1 [] [u0_1] r.1.Heads :=
 CallR.adJ (J := [c0, c1]) (fun c => bif Nat.beq c 0 then 0 else bif Nat.beq c 2 then c0 else bif Nat.beq c 3 then c1 else bif Nat.beq c 31 then k0 else bif Nat.beq c 32 then k1 else 0) (c127 (h0.view _) (h1_0.viewJ 0 hJ) (h1_1.viewJ 1 hJ) (h99.view _) hm) fun _ _ ⟨u0_0, u0_1, e, f0, f1⟩ => ⟨u0_0, u0_1, e, f0.one1.backN rfl, f1.one1.backN rfl⟩

theorem c59 {x0 v0_0_ v0_1_ x1 x2 r} (h0 : Rd W0 [0] [v0_0_, v0_1_] x0) (h99 : Gl 0 W0 [0]) (hm : Vm.impl_RepoBranch x0 x1 x2 = some r) : Q0 59 [.agg [v0_0_, v0_1_].toArray, vS x1, vI x2] W0 fun Wf v => ∃ u0_0 u0_1, v = .tuple [.agg [u0_0, u0_1].toArray, vB r.2].toArray ∧ OwS Wf [31] [] [u0_0] r.1.Commits ∧ OwS Wf [32] [] [u0_1] r.1.Heads := by
 unfold Vm.impl_RepoBranch at hm
 obtain ⟨w0_0, w0_1, he0, h0_0, h0_1⟩ := Repo.split h0
 simp only [List.cons.injEq, and_true, true_and] at he0
 obtain ⟨rfl, rfl⟩ := he0
 refine CallR.of Tryz.func59 rfl rfl rfl rfl (sr (bo 2 rfl fun g1 W1 l1 b1 => ?_))
 have a2 := l1.o
 refine al 3 [.slice none 0 0, .slice none 0 0] fun g3 W3 l3 b3 => ?_
 have a4 := a2.n l3
 refine Nb rfl (ssr (la (b1.up l3) (ca hm (fun _ => p19 (Repo.rd (K := [0]) x0.Commits x0.Heads (h0_0.ul a4) (h0_1.ul a4)) (h99.ul a4)) fun z9 W11 hm l11 => ?_)))
 have a12 := a4.n l11
 have b13 := (b1.up l3).up l11
 refine Lw.r rfl (R.not rfl) (nl (cn hm (fun hm => ?_) fun hm => ?_))
 ·refine sr (Lw.r rfl (R.bd (zs := [.slice none 0 0, .slice none 0 0]) (cs := [.slice none 0 0, .slice none 0 0]) [] rfl rfl rfl bp_nil) (sta (b3.up l11) (oc_cons rfl (oc_cons rfl oc_nil)) fun W16 l16 b16 => ?_))
  have a17 := a12.t l16
  refine Nb rfl ?_
  cases hm
  exact Cw.ret (retA2 rfl b16 rfl (Res.mk a17 ⟨.slice none 0 0, .slice none 0 0, rfl, (owsN []).sub rfl rfl, (owsN []).sub rfl rfl⟩))
 ·refine sk (ssr (la b13 (ms rfl (ca hm (fun _ => p80 (Repo.rd (K := [0]) x0.Commits x0.Heads (h0_0.ul a12) (h0_1.ul a12))) fun z21 W23 hm l23 => ?_))))
  have a24 := a12.n l23
  have b26 := (b3.up l11).up l23
  refine Lw.ge rfl (nl (cn hm (fun hm => ?_) fun hm => ?_))
  ·refine sr (la (b13.up l23) (cr hm (fun _ => p71 (k0 := 4) (k1 := 5) (Repo.rd (K := [0]) x0.Commits x0.Heads (h0_0.ul a24) (h0_1.ul a24))) ?_))
   rintro z30 _ W32 hm l32 ⟨v0_0_32, v0_1_32, rfl, f32_0, f32_1⟩
   have a33 := a24.n l32
   refine sta (b26.up l32) (oc_cons f32_0.oc (oc_cons f32_1.oc oc_nil)) fun W36 l36 b36 => ?_
   have a37 := a33.t l36
   refine Nb rfl ?_
   obtain ⟨W41, ew41, l41, o41⟩ := (f32_0.up l36).dyeO 31
   have a42 := a37.t l41
   obtain ⟨W46, ew46, l46, o46⟩ := ((f32_1.up l36).up l41).dyeO 32
   have a47 := a42.t l46
   cases hm
   rw [← ew46.trans (ew41)]
   exact Cw.ret (retA2 rfl ((b36.up l41).up l46) rfl (Res.mk a47 ⟨v0_0_32, v0_1_32, rfl, (o41.up l46).s, o46.s⟩))
  ·refine sk (Cw.seq (Cw.draw [6, 7, 8, 9] [(0, 1), (1, 1), (3, 0), (4, 0), (2, 2), (5, 2), (6, 2), (7, 0), (8, 0), (9, 3), (10, 0)] mixed (by kernel_rfl) fun W51 l51 => ?_))
   have a52 := a24.n l51
   have b53 := (b13.up l23).up l51
   refine Mw.q rfl rfl (fun _ c => R.lda (cs := [v0_0_, v0_1_]) (b53.clcs rfl c) rfl rfl) (Mw.q rfl rfl (fun _ c => R.lda (cs := [v0_0_, v0_1_]) (b53.clcs rfl c) rfl rfl) (Ds rfl (Di rfl ?_)))
   obtain ⟨z57, e58, hm⟩ := ob hm
   refine Mw.t rfl rfl (T.call rfl (p71 (k0 := 6) (k1 := 7) (Repo.rd (K := [0]) x0.Commits x0.Heads (h0_0.ul a52) (h0_1.ul a52)) e58)) ?_
   rintro _ _ ⟨W59, rfl, l59, ⟨v0_0_59, v0_1_59, rfl, f59_0, f59_1⟩⟩
   have a60 := a52.n l59
   refine m0 l59 fun d59 => ?_
   obtain ⟨z63, e64, hm⟩ := ob hm
   refine Mw.t rfl rfl (T.call rfl (p128 (K := [0]) (k0 := 8) (k1 := 9) (c0 := 6) (c1 := 7) (x0 := (Vm.Repo.mk z57.Commits z57.Heads)) f59_0 f59_1 rfl e64)) ?_
   rintro _ _ ⟨W65, rfl, l65, ⟨v0_0_65, v0_1_65, rfl, f65_0, f65_1⟩⟩
   have a66 := a60.t l65
   refine mc d59 l65 fun d65 => ?_
   obtain ⟨z72, e73, hm⟩ := ob hm
   refine Mw.t rfl rfl (T.call rfl (p127 (k0 := 10) (k1 := 11) (c0 := 8) (c1 := 9) (x1 := (Vm.Repo.mk z63.Commits z63.Heads)) (Repo.rd (K := [0]) x0.Commits x0.Heads (h0_0.ul a66) (h0_1.ul a66)) f65_0 f65_1 (h99.ul a66) rfl e73)) ?_
   rintro _ _ ⟨W74, rfl, l74, ⟨v0_0_74, v0_1_74, rfl, f74_0, f74_1⟩⟩
   have a75 := a66.t l74
   refine mc d65 l74 fun d74 => Mw.p rfl rfl (fun _ => R.ext (vs := [.agg [v0_0_74, v0_1_74].toArray, vB z72.2]) (v := .agg [v0_0_74, v0_1_74].toArray) rfl rfl) (Mw.p rfl rfl (fun _ => R.ext (vs := [.agg [v0_0_74, v0_1_74].toArray, vB z72.2]) (v := vB z72.2) rfl rfl) (Mw.lu rfl (T.sta (vs := [v0_0_74, v0_1_74]) ((((b26.up l51).up l59).up l65).up l74) rfl rfl (oc_cons f74_0.oc (oc_cons f74_1.oc oc_nil)) rfl rfl) ?_))
   rintro _ _ ⟨W78, rfl, l78, b78⟩
   have a79 := a75.t l78
   refine Hb rfl (Mw.nil ?_)
   obtain ⟨W83, ew83, l83, o83⟩ := (f74_0.up l78).dyeO 31
   have a84 := a79.t l83
   obtain ⟨W88, ew88, l88, o88⟩ := ((f74_1.up l78).up l83).dyeO 32
   have a89 := a84.t l88
   cases hm
   rw [← ew88.trans (ew83)]
   exact Cw.ret (retA2 rfl ((b78.up l83).up l88) rfl (Res.mk a89 ⟨v0_0_74, v0_1_74, rfl, (o83.up l88).s, o88.s⟩))

theorem p59 {x0 v0_0_ v0_1_ x1 x2 k0 k1 r} (h0 : Rd W K [v0_0_, v0_1_] x0) (h99 : Gl 0 W K) (hm : Vm.impl_RepoBranch x0 x1 x2 = some r) : Q1 59 [.agg [v0_0_, v0_1_].toArray, vS x1, vI x2] W [] fun W' v => ∃ u0_0 u0_1, v = .tuple [.agg [u0_0, u0_1].toArray, vB r.2].toArray ∧ Ow W' k0 [] [u0_0] r.1.Commits ∧ Ow W' k1 [] [u0_1] r.1.Heads :=
 CallR.adJ (J := []) (fun c => bif Nat.beq c 0 then 0 else bif Nat.beq c 31 then k0 else bif Nat.beq c 32 then k1 else 0) (c59 (h0.view _) (h99.view _) hm) fun _ _ ⟨u0_0, u0_1, e, f0, f1⟩ => ⟨u0_0, u0_1, e, f0.one1.backN rfl, f1.one1.backN rfl⟩

theorem c11 {x0 v0_ r} (h0 : Rd W0 [0] [v0_] x0) (h99 : Gl 0 W0 [0]) (hm : Vm.laws_FnRepoBranch x0 = some r) : Q0 11 [v0_] W0 fun Wf v => v = vB r := by
 unfold Vm.laws_FnRepoBranch at hm
 refine CallR.of Tryz.func11 rfl rfl rfl rfl (sr (Nb rfl (ssr (mv v0_ rfl (Lw.ln x0 h0 rfl (Lw.gt rfl (nl (cn hm (fun hm => ?_) fun hm => ?_))))))))
 ·exact sr (Nb rfl (.ret (rt hm (Le.refl _ _))))
 ·refine sk (sr (mv v0_ rfl (cr hm (fun _ => p58 (k0 := 2) (k1 := 3) h0) ?_)))
  rintro z2 _ W4 hm l4 ⟨v0_0_4, v0_1_4, rfl, f4_0, f4_1⟩
  have a5 := l4.o
  refine mv (.tuple [.agg [v0_0_4, v0_1_4].toArray, vS z2.2.1, vI z2.2.2].toArray) rfl (Lw.r rfl (R.ext (vs := [.agg [v0_0_4, v0_1_4].toArray, vS z2.2.1, vI z2.2.2]) (v := .agg [v0_0_4, v0_1_4].toArray) rfl rfl) (Lw.r rfl (R.ext (vs := [.agg [v0_0_4, v0_1_4].toArray, vS z2.2.1, vI z2.2.2]) (v := vS z2.2.1) rfl rfl) (Lw.r rfl (R.ext (vs := [.agg [v0_0_4, v0_1_4].toArray, vS z2.2.1, vI z2.2.2]) (v := vI z2.2.2) rfl rfl) (al 4 [.slice none 0 0, .slice none 0 0] fun g6 W6 l6 b6 => ?_))))
  have a7 := a5.n l6
  refine sta b6 (oc_cons (f4_0.up l6).oc (oc_cons (f4_1.up l6).oc oc_nil)) fun W10 l10 b10 => ?_
  have a11 := a7.t l10
  have o12 := (f4_0.up l6).up l10
  have o13 := (f4_1.up l6).up l10
  refine Gs rfl (Ni rfl (sr (la b10 (ms rfl (mi rfl (cr hm (fun _ => p59 (K := [0, 2, 3]) (k0 := 5) (k1 := 6) (x0 := (Vm.Repo.mk z2.1.Commits z2.1.Heads)) ((Repo.rd (K := [2, 3]) z2.1.Commits z2.1.Heads (o12.rd.sub (M := [2, 3]) rfl) (o13.rd.sub (M := [2, 3]) rfl)).sub (M := [0, 2, 3]) rfl) ((h99.ul a11).sub (M := [0, 2, 3]) rfl)) ?_))))))
  rintro z15 _ W17 hm l17 ⟨v0_0_17, v0_1_17, rfl, f17_0, f17_1⟩
  have a18 := a11.n l17
  refine mv (.tuple [.agg [v0_0_17, v0_1_17].toArray, vB z15.2].toArray) rfl (Lw.r rfl (R.ext (vs := [.agg [v0_0_17, v0_1_17].toArray, vB z15.2]) (v := .agg [v0_0_17, v0_1_17].toArray) rfl rfl) (Lw.r rfl (R.ext (vs := [.agg [v0_0_17, v0_1_17].toArray, vB z15.2]) (v := vB z15.2) rfl rfl) (al 7 [.slice none 0 0, .slice none 0 0] fun g22 W22 l22 b22 => ?_)))
  have a23 := a18.n l22
  refine sta b22 (oc_cons (f17_0.up l22).oc (oc_cons (f17_1.up l22).oc oc_nil)) fun W29 l29 b29 => ?_
  have a30 := a23.t l29
  have o31 := ((o12.up l17).up l22).up l29
  have o32 := ((o13.up l17).up l22).up l29
  have b35 := ((b10.up l17).up l22).up l29
  refine Nb rfl (sr (la b35 (ms rfl (mi rfl (cr hm (fun _ => p60 (K := [2, 3]) (x0 := (Vm.Repo.mk z2.1.Commits z2.1.Heads)) (Repo.rd (K := [2, 3]) z2.1.Commits z2.1.Heads (o31.rd.sub (M := [2, 3]) rfl) (o32.rd.sub (M := [2, 3]) rfl))) ?_)))))
  rintro z36 _ W38 hm l38 ⟨v0_0_38, v0_1_38, rfl, f38_0, f38_1⟩
  have s39 := f38_0.sub (M := [0, 2, 3]) rfl
  have s40 := f38_1.sub (M := [0, 2, 3]) rfl
  have a41 := a30.n l38
  refine mv (.tuple [.agg [v0_0_38, v0_1_38].toArray, vB z36.2].toArray) rfl (Lw.r rfl (R.ext (vs := [.agg [v0_0_38, v0_1_38].toArray, vB z36.2]) (v := .agg [v0_0_38, v0_1_38].toArray) rfl rfl) (Lw.r rfl (R.ext (vs := [.agg [v0_0_38, v0_1_38].toArray, vB z36.2]) (v := vB z36.2) rfl rfl) (al 8 [.slice none 0 0, .slice none 0 0] fun g48 W48 l48 b48 => ?_)))
  have a49 := a41.n l48
  refine sta b48 (oc_cons s39.oc (oc_cons s40.oc oc_nil)) fun W56 l56 b56 => ?_
  have a57 := a49.t l56
  have o58 := ((o31.up l38).up l48).up l56
  have o59 := ((o32.up l38).up l48).up l56
  have o60 := ((((f17_0.up l22).up l29).up l38).up l48).up l56
  have o61 := ((((f17_1.up l22).up l29).up l38).up l48).up l56
  have b62 := ((b35.up l38).up l48).up l56
  have b63 := ((b29.up l38).up l48).up l56
  refine Nb rfl (Cw.seq ?_)
  obtain ⟨K66, hK66, hm⟩ := jn_e hm
  refine Cw.join 35 48 [48] (fun l w => ∃ y64 W65, CW.w W65 = w ∧ Le [] W56 W65 ∧ l = [vB y64] ∧ K66 y64 = some r) ?_ ?_
  ·rintro _ _ σ ⟨y64, W65, rfl, l65, rfl, hm⟩
   rw [hK66] at hm
   have a67 := a57.n l65
   have o70 := o60.up l65
   have o71 := o61.up l65
   have b73 := b63.up l65
   refine cn hm (fun hm => ?_) fun hm => ?_
   ·obtain ⟨K78, hK78, hm⟩ := jn_e hm
    refine Cw.join 49 56 [2] (fun l w => ∃ y76 W77, CW.w W77 = w ∧ Le [] W65 W77 ∧ l = [vB y76] ∧ K78 y76 = some r) ?_ ?_
    ·rintro _ _ σ ⟨y76, W77, rfl, l77, rfl, hm⟩
     rw [hK78] at hm
     have a79 := a67.n l77
     exact .ret (rt hm a79)
    ·refine rg (mb rfl (mb rfl (Lw.r rfl (R.beq rfl rfl) (mb rfl (bs hm (fun hc87 hm => ?_) fun hc87 hm => ?_)))))
     ·refine wak 3 hc87 (la b73 (la (b56.up l65) ?_))
      have s88 := s39.up ((l48.sub (M := [8]) rfl).trans ((l56.sub (M := [8]) rfl).trans (l65.sub (M := [8]) rfl))) rfl
      have s89 := s40.up ((l48.sub (M := [8]) rfl).trans ((l56.sub (M := [8]) rfl).trans (l65.sub (M := [8]) rfl))) rfl
      exact ca hm (fun _ => p18 (K := [0, 2, 3, 5, 6]) (x0 := (Vm.Repo.mk z15.1.Commits z15.1.Heads)) ((Repo.rd (K := [5, 6]) z15.1.Commits z15.1.Heads (o70.rd.sub (M := [5, 6]) rfl) (o71.rd.sub (M := [5, 6]) rfl)).sub (M := [0, 2, 3, 5, 6]) rfl) ((Repo.rd (K := [0, 2, 3]) z36.1.Commits z36.1.Heads s88 s89).sub (M := [0, 2, 3, 5, 6]) rfl)) fun z90 W92 hm l92 => Pb hc87 rfl (Nb rfl ((ag) ⟨z90, W92, rfl, l92, rfl, hm⟩))
     ·exact psk 3 hc87 rfl (Pb hc87 rfl (Nb rfl ((ag) ⟨false, W65, rfl, Le.refl _ _, rfl, hm⟩)))
   ·refine sk (ssr (mb rfl (Lw.r rfl (R.not rfl) (nl (cn hm (fun hm => ?_) fun hm => ?_)))))
    ·refine sr (la b73 (la (b62.up l65) (ca hm (fun _ => p18 (K := [2, 3, 5, 6]) (x0 := (Vm.Repo.mk z15.1.Commits z15.1.Heads)) (x1 := (Vm.Repo.mk z2.1.Commits z2.1.Heads)) ((Repo.rd (K := [5, 6]) z15.1.Commits z15.1.Heads (o70.rd.sub (M := [5, 6]) rfl) (o71.rd.sub (M := [5, 6]) rfl)).sub (M := [2, 3, 5, 6]) rfl) ((Repo.rd (K := [2, 3]) z2.1.Commits z2.1.Heads ((o58.up l65).rd.sub (M := [2, 3]) rfl) ((o59.up l65).rd.sub (M := [2, 3]) rfl)).sub (M := [2, 3, 5, 6]) rfl)) fun z102 W104 hm l104 => ?_)))
     have a105 := a67.n l104
     exact Nb rfl (.ret (rt hm a105))
    ·refine sk (sr (la b73 (ms rfl (cr hm (fun _ => p16 (K := [0, 5, 6]) (k0 := 9) (k1 := 10) (x0 := (Vm.Repo.mk z15.1.Commits z15.1.Heads)) ((Repo.rd (K := [5, 6]) z15.1.Commits z15.1.Heads (o70.rd.sub (M := [5, 6]) rfl) (o71.rd.sub (M := [5, 6]) rfl)).sub (M := [0, 5, 6]) rfl) ((h99.ul a67).sub (M := [0, 5, 6]) rfl)) ?_))))
     rintro z114 _ W116 hm l116 ⟨v0_0_116, v0_1_116, rfl, f116_0, f116_1⟩
     have a117 := a67.n l116
     refine mv (.tuple [.agg [v0_0_116, v0_1_116].toArray, vB z114.2].toArray) rfl (Lw.r rfl (R.ext (vs := [.agg [v0_0_116, v0_1_116].toArray, vB z114.2]) (v := .agg [v0_0_116, v0_1_116].toArray) rfl rfl) (Lw.r rfl (R.ext (vs := [.agg [v0_0_116, v0_1_116].toArray, vB z114.2]) (v := vB z114.2) rfl rfl) (al 11 [.slice none 0 0, .slice none 0 0] fun g125 W125 l125 b125 => ?_)))
     have a126 := a117.n l125
     refine sta b125 (oc_cons (f116_0.up l125).oc (oc_cons (f116_1.up l125).oc oc_nil)) fun W136 l136 b136 => ?_
     have a137 := a126.t l136
     have o140 := ((o70.up l116).up l125).up l136
     have o141 := ((o71.up l116).up l125).up l136
     have b145 := ((b73.up l116).up l125).up l136
     refine Nb rfl ?_
     obtain ⟨K149, hK149, hm⟩ := jn_e hm
     refine Cw.join 68 84 [2] (fun l w => ∃ y147 W148, CW.w W148 = w ∧ Le [] W136 W148 ∧ l = [vB y147] ∧ K149 y147 = some r) ?_ ?_
     ·rintro _ _ σ ⟨y147, W148, rfl, l148, rfl, hm⟩
      rw [hK149] at hm
      have a150 := a137.n l148
      exact .ret (rt hm a150)
     ·refine rg (la b145 (ca hm (fun _ => p19 (K := [0, 5, 6]) (x0 := (Vm.Repo.mk z15.1.Commits z15.1.Heads)) ((Repo.rd (K := [5, 6]) z15.1.Commits z15.1.Heads (o140.rd.sub (M := [5, 6]) rfl) (o141.rd.sub (M := [5, 6]) rfl)).sub (M := [0, 5, 6]) rfl) ((h99.ul a137).sub (M := [0, 5, 6]) rfl)) fun z162 W164 hm l164 => ?_))
      have a165 := a137.n l164
      refine mb rfl (bs hm (fun hc176 hm => ?_) fun hc176 hm => ?_)
      ·refine wak 5 hc176 (la (b145.up l164) (ms rfl (ca hm (fun _ => p20 (K := [0, 5, 6]) (x0 := (Vm.Repo.mk z15.1.Commits z15.1.Heads)) ((Repo.rd (K := [5, 6]) z15.1.Commits z15.1.Heads ((o140.up l164).rd.sub (M := [5, 6]) rfl) ((o141.up l164).rd.sub (M := [5, 6]) rfl)).sub (M := [0, 5, 6]) rfl) ((h99.ul a165).sub (M := [0, 5, 6]) rfl)) fun z178 W180 hm l180 => mi rfl (Lw.eq rfl (Pb hc176 rfl (mb rfl (bs hm (fun hc192 hm => ?_) fun hc192 hm => ?_)))))))
       ·refine wak 1 hc192 (mb rfl (Pb hc192 rfl (mb rfl (bs hm (fun hc193 hm => ?_) fun hc193 hm => ?_))))
        ·exact wak 3 hc193 (la ((b136.up l164).up l180) (la ((((((b62.up l65).up l116).up l125).up l136).up l164).up l180) (ca hm (fun _ => p18 (K := [2, 3, 9, 10]) (x0 := (Vm.Repo.mk z114.1.Commits z114.1.Heads)) (x1 := (Vm.Repo.mk z2.1.Commits z2.1.Heads)) ((Repo.rd (K := [9, 10]) z114.1.Commits z114.1.Heads (((((f116_0.up l125).up l136).up l164).up l180).rd.sub (M := [9, 10]) rfl) (((((f116_1.up l125).up l136).up l164).up l180).rd.sub (M := [9, 10]) rfl)).sub (M := [2, 3, 9, 10]) rfl) ((Repo.rd (K := [2, 3]) z2.1.Commits z2.1.Heads (((((((o58.up l65).up l116).up l125).up l136).up l164).up l180).rd.sub (M := [2, 3]) rfl) (((((((o59.up l65).up l116).up l125).up l136).up l164).up l180).rd.sub (M := [2, 3]) rfl)).sub (M := [2, 3, 9, 10]) rfl)) fun z194 W196 hm l196 => Pb hc193 rfl (Nb rfl ((ag) ⟨z194, W196, rfl, ((l164.j l180).j l196).w, rfl, hm⟩)))))
        ·exact psk 3 hc193 rfl (Pb hc193 rfl (Nb rfl ((ag) ⟨false, W180, rfl, (l164.j l180).w, rfl, hm⟩)))
       ·exact psk 1 hc192 rfl (Pb hc192 rfl (mb rfl (psk 3 rfl rfl (Pb rfl rfl (Nb rfl ((ag) ⟨false, W180, rfl, (l164.j l180).w, rfl, hm⟩))))))
      ·exact psk 5 hc176 rfl (Pb hc176 rfl (mb rfl (psk 1 rfl rfl (Pb rfl rfl (mb rfl (psk 3 rfl rfl (Pb rfl rfl (Nb rfl ((ag) ⟨false, W164, rfl, l164, rfl, hm⟩)))))))))
  ·refine rg (mb rfl (mb rfl (Lw.r rfl (R.bne rfl rfl) (mb rfl (bs hm (fun hc208 hm => ?_) fun hc208 hm => ?_)))))
   ·exact psk 4 hc208 rfl (Pb hc208 rfl (mb rfl (psk 3 rfl rfl (Pb rfl rfl (nl ((ag) ⟨true, W56, rfl, Le.refl _ _, rfl, hm⟩))))))
   ·refine wak 4 hc208 (la b63 (la b56 ?_))
    have s209 := s39.up ((l48.sub (M := [8]) rfl).trans (l56.sub (M := [8]) rfl)) rfl
    have s210 := s40.up ((l48.sub (M := [8]) rfl).trans (l56.sub (M := [8]) rfl)) rfl
    refine ca hm (fun _ => p18 (K := [0, 2, 3, 5, 6]) (x0 := (Vm.Repo.mk z15.1.Commits z15.1.Heads)) ((Repo.rd (K := [5, 6]) z15.1.Commits z15.1.Heads (o60.rd.sub (M := [5, 6]) rfl) (o61.rd.sub (M := [5, 6]) rfl)).sub (M := [0, 2, 3, 5, 6]) rfl) ((Repo.rd (K := [0, 2, 3]) z36.1.Commits z36.1.Heads s209 s210).sub (M := [0, 2, 3, 5, 6]) rfl)) fun z211 W213 hm l213 => ?_
    have a214 := a57.n l213
    refine Lw.r rfl (R.not rfl) (Pb hc208 rfl (mb rfl (bs hm (fun hc222 hm => ?_) fun hc222 hm => ?_)))
    ·exact psk 3 hc222 rfl (Pb hc222 rfl (nl ((ag) ⟨true, W213, rfl, l213, rfl, hm⟩)))
    ·exact wak 3 hc222 (la (b62.up l213) (ca hm (fun _ => p19 (K := [0, 2, 3]) (x0 := (Vm.Repo.mk z2.1.Commits z2.1.Heads)) ((Repo.rd (K := [2, 3]) z2.1.Commits z2.1.Heads ((o58.up l213).rd.sub (M := [2, 3]) rfl) ((o59.up l213).rd.sub (M := [2, 3]) rfl)).sub (M := [0, 2, 3]) rfl) ((h99.ul a214).sub (M := [0, 2, 3]) rfl)) fun z224 W226 hm l226 => Lw.r rfl (R.not rfl) (Pb hc222 rfl (nl ((ag) ⟨(!z224), W226, rfl, (l213.j l226).w, rfl, hm⟩)))))

theorem p11 {x0 v0_ r} (h0 : Rd W K [v0_] x0) (h99 : Gl 0 W K) (hm : Vm.laws_FnRepoBranch x0 = some r) : Q1 11 [v0_] W [] fun W' v => v = vB r :=
 (c11 (h0.view _) (h99.view _) hm).ad (fk 0) fun _ _ e => e

end Go.Sx
