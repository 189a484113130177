/- Walks: each function answers as its model, printed by a program of ours. Conditions: the arguments read as they are given. -/
import Derived.Test.YtkfeiopifiejgaaGreatDoorXTs
import Derived.Test.YtkfeiopifiejgaaGreatDoorXM16
import Derived.Test.YtkfeiopifiejgaaGreatDoorXW11
import Derived.Test.YtkfeiopifiejgaaGreatDoorXW12
import Derived.Test.YtkfeiopifiejgaaGreatDoorXW15
namespace Go.Sx
open Go Go.Proofs Go.Vm Rp
set_option linter.unusedVariables false
set_option linter.unusedSimpArgs false

variable {W W0 : CW} {K : List Nat}
theorem c33 {x0 v0_ r} (h0 : Rd W0 [0] [v0_] x0) (hm : Vm.spec_DrawLogNext x0 = some r) : Q0 33 [v0_] W0 fun Wf v => ∃ u0_0 u0_1 u1, v = .tuple [.agg [u0_0, u0_1].toArray, u1, vI r.2.2].toArray ∧ OwS Wf [31] [] [u0_0] r.1.Commits ∧ OwS Wf [32] [] [u0_1] r.1.Heads ∧ OwS Wf [33] [] [u1] r.2.1 := by
 unfold Vm.spec_DrawLogNext at hm
 refine CallR.of Tryz.func33 rfl rfl rfl rfl (sr (al 2 [.slice none 0 0, .slice none 0 0] fun g1 W1 l1 b1 => ?_))
 have a2 := l1.o
 refine Gv (.slice none 0 0) rfl (Ni rfl (sr (mv v0_ rfl (cr hm (fun _ => p30 (k0 := 3) (k1 := 4) (k2 := 5) (h0.ul a2)) ?_))))
 rintro z4 _ W6 hm l6 ⟨v0_0_6, v0_1_6, v1_6, rfl, f6_0, f6_1, f6_2⟩
 have a7 := a2.n l6
 refine Lw.r rfl (R.ext (vs := [.agg [v0_0_6, v0_1_6].toArray, v1_6, vI z4.2.2]) (v := .agg [v0_0_6, v0_1_6].toArray) rfl rfl) (Lw.r rfl (R.ext (vs := [.agg [v0_0_6, v0_1_6].toArray, v1_6, vI z4.2.2]) (v := v1_6) rfl rfl) (Lw.r rfl (R.ext (vs := [.agg [v0_0_6, v0_1_6].toArray, v1_6, vI z4.2.2]) (v := vI z4.2.2) rfl rfl) (sta (b1.up l6) (oc_cons f6_0.oc (oc_cons f6_1.oc oc_nil)) fun W9 l9 b9 => ?_)))
 have a10 := a7.t l9
 refine Gv v1_6 rfl (Ni rfl ?_)
 obtain ⟨W14, ew14, l14, o14⟩ := (f6_0.up l9).dyeO 31
 have a15 := a10.t l14
 obtain ⟨W19, ew19, l19, o19⟩ := ((f6_1.up l9).up l14).dyeO 32
 have a20 := a15.t l19
 obtain ⟨W24, ew24, l24, o24⟩ := (((f6_2.up l9).up l14).up l19).dyeO 33
 have a25 := a20.t l24
 cases hm
 rw [← ew24.trans (ew19.trans (ew14))]
 exact Cw.ret (retG (ResOk.c rfl (((b9.up l14).up l19).up l24) (ResOk.t rfl (ResOk.t rfl ResOk.n))) (Res.mk a25 ⟨v0_0_6, v0_1_6, v1_6, rfl, ((o14.up l19).up l24).s, (o19.up l24).s, o24.s⟩))

theorem p33 {x0 v0_ k0 k1 k2 r} (h0 : Rd W K [v0_] x0) (hm : Vm.spec_DrawLogNext x0 = some r) : Q1 33 [v0_] W [] fun W' v => ∃ u0_0 u0_1 u1, v = .tuple [.agg [u0_0, u0_1].toArray, u1, vI r.2.2].toArray ∧ Ow W' k0 [] [u0_0] r.1.Commits ∧ Ow W' k1 [] [u0_1] r.1.Heads ∧ Ow W' k2 [] [u1] r.2.1 :=
 CallR.adJ (J := []) (fun c => bif Nat.beq c 0 then 0 else bif Nat.beq c 31 then k0 else bif Nat.beq c 32 then k1 else bif Nat.beq c 33 then k2 else 0) (c33 (h0.view _) hm) fun _ _ ⟨u0_0, u0_1, u1, e, f0, f1, f2⟩ => ⟨u0_0, u0_1, u1, e, f0.one1.backN rfl, f1.one1.backN rfl, f2.one1.backN rfl⟩

theorem c34 {x0 v0_0_ v0_1_ x1 v1_ x2 r} (h0 : Rd W0 [0] [v0_0_, v0_1_] x0) (h1 : Rd W0 [0] [v1_] x1) (h99 : Gl 0 W0 [0]) (hm : Vm.impl_LogNext x0 x1 x2 = some r) : Q0 34 [.agg [v0_0_, v0_1_].toArray, v1_, vI x2] W0 fun Wf v => v = vI r := by
 unfold Vm.impl_LogNext at hm
 obtain ⟨w0_0, w0_1, he0, h0_0, h0_1⟩ := Repo.split h0
 simp only [List.cons.injEq, and_true, true_and] at he0
 obtain ⟨rfl, rfl⟩ := he0
 refine CallR.of Tryz.func34 rfl rfl rfl rfl (sr (bo 2 rfl fun g1 W1 l1 b1 => ?_))
 have a2 := l1.o
 refine Ni rfl (sr (Gi rfl (Ni rfl (ssr (la b1 (mv v1_ rfl (mi rfl (cr hm (fun _ => p31 (k0 := 3) (Repo.rd (K := [0]) x0.Commits x0.Heads (h0_0.ul a2) (h0_1.ul a2)) (h1.ul a2) (h99.ul a2)) ?_))))))))
 rintro z7 v0_9 W9 hm l9 ⟨_, rfl, f9_0⟩
 have a10 := a2.n l9
 refine Lw.ln z7 f9_0.rd rfl (mi rfl (nl (Cw.block ?_)))
 obtain ⟨K19, hK19, hm⟩ := jn_e hm
 refine Cw.loop 18 51 [7, 8, 10, 11, 12, 18] (fun m l w => ∃ y12 y13 y17 j14 j15 j16 W18, CW.w W18 = w ∧ Le [4] W9 W18 ∧ l = [vI y12, vI y13, j14, j15, j16, vI y17] ∧ Vm.impl_LogNext_l1 x0 x1 x2 z7 K19 m y12 y13 y17 = some r) _ ⟨(-1), 0, 0, undef, undef, undef, W9, rfl, Le.refl _ _, rfl, hm⟩ ?_
 rintro (_ | m20) _ _ σ ⟨y12, y13, y17, j14, j15, j16, W18, rfl, l18, rfl, hm⟩
 ·cases hm
 unfold Vm.impl_LogNext_l1 at hm
 have a21 := a10.t l18
 refine sr (Lw.lt rfl (nl (Cw.seq (cn hm (fun hm => ?_) fun hm => ?_))))
 ·refine sk ?_
  obtain ⟨K31, hK31, hm⟩ := jn_e hm
  refine Cw.join 20 50 [7, 8, 10, 11, 12] (fun l w => ∃ y25 y26 j27 j28 j29 W30, CW.w W30 = w ∧ Le [4] W18 W30 ∧ l = [vI y25, vI y26, j27, j28, j29] ∧ K31 y25 y26 = some r) ?_ ?_
  ·rintro _ _ σ ⟨y25, y26, j27, j28, j29, W30, rfl, l30, rfl, hm⟩
   rw [hK31] at hm
   exact rg (Lw.add rfl (mi rfl (nl ((agm) ⟨y25, y26, w64 (y17 + 1), j27, j28, j29, W30, rfl, (l18.j l30).w, rfl, hm⟩))))
  ·refine Cw.block (sr ?_)
   obtain ⟨u35, e36, hm⟩ := ob hm
   refine Lw.r rfl (R.ix (α := Int) (f9_0.up l18).rd e36 rfl rfl rfl) (Lw.r rfl (R.ld rfl rfl ((f9_0.up l18).rd.at_ e36).int) (Ni rfl (ssr (mi rfl (mi rfl (Lw.eq rfl (nl (cn hm (fun hm => ?_) fun hm => ?_))))))))
   ·exact Cw.exit ((ag) ⟨y12, y13, vI u35, j15, j16, W18, rfl, Le.refl _ _, rfl, hm⟩)
   ·refine sk (sr (Lw.t rfl (T.lit0 (α := Int) 4 []) ?_))
    rintro v38 _ ⟨W38, rfl, l38, o38⟩
    have a39 := a21.n l38
    refine mv v1_ rfl ?_
    obtain ⟨q42, e43, hm⟩ := ob hm
    refine Lw.t rfl (T.appP (α := Int) o38 (h1.ul a39) rfl rfl e43) ?_
    rintro v44 _ ⟨W44, rfl, l44, o44⟩
    have a46 := a39.t l44
    refine mi rfl (Lw.t rfl (T.bs 5 [vI u35] (cs := [vI u35]) rfl rfl (bsv rfl)) ?_)
    rintro _ _ ⟨g49, W49, rfl, rfl, l49, b49⟩
    have a50 := a46.n l49
    obtain ⟨q54, e55, hm⟩ := ob hm
    refine Lw.t rfl (T.app1S (α := Int) (K' := []) (o44.up l49) b49 (rdI _) rfl rfl e55) ?_
    rintro v56 _ ⟨W56, rfl, l56, o56⟩
    have a57 := a50.t l56
    refine Nv v56 rfl (Cw.seq (Cw.draw [] [(0, 1), (1, 0), (2, 0), (5, 1), (6, 0), (7, 0), (3, 2), (4, 0), (8, 2), (9, 0), (10, 0), (11, 0)] mixed (by kernel_rfl) fun W61 l61 => ?_))
    have a62 := a57.n l61
    have b65 := ((((((b1.up l9).up l18).up l38).up l44).up l49).up l56).up l61
    refine Mw.q rfl rfl (fun _ c => R.lda (cs := [v0_0_, v0_1_]) (b65.clcs rfl c) rfl rfl) (Di rfl (Dv v56 rfl (Mw.q rfl rfl (fun _ c => R.lda (cs := [v0_0_, v0_1_]) (b65.clcs rfl c) rfl rfl) (Di rfl (Dv v1_ rfl ?_)))))
    obtain ⟨z69, e70, hm⟩ := ob hm
    refine Mw.t rfl rfl (T.call rfl (p56 (K := [0, 4]) (k0 := 6) ((Repo.rd (K := [0]) x0.Commits x0.Heads (h0_0.ul a62) (h0_1.ul a62)).sub (M := [0, 4]) rfl) ((o56.up l61).rd.sub (M := [0, 4]) rfl) e70)) ?_
    rintro v0_71 _ ⟨W71, rfl, l71, ⟨_, rfl, f71_0⟩⟩
    have a72 := a62.n l71
    refine m0 l71 fun d71 => Mw.p rfl rfl (fun _ => lenR (xs := z69) f71_0.rd rfl) (Dc hm d71 (fun _ => p56 (k0 := 7) (Repo.rd (K := [0]) x0.Commits x0.Heads (h0_0.ul a72) (h0_1.ul a72)) (h1.ul a72)) rfl ?_)
    rintro z80 v0_82 W82 hm l82 ⟨_, rfl, f82_0⟩ d82
    refine Mw.p rfl rfl (fun _ => lenR (xs := z80) f82_0.rd rfl) (Mw.p rfl rfl (fun _ => R.max rfl rfl) (Hi rfl (Mw.nil ?_)))
    obtain ⟨K91, hK91, hm⟩ := jn_e hm
    refine Cw.join 42 48 [48] (fun l w => ∃ y89 W90, CW.w W90 = w ∧ Le [] W82 W90 ∧ l = [vB y89] ∧ K91 y89 = some r) ?_ ?_
    ·rintro _ _ σ ⟨y89, W90, rfl, l90, rfl, hm⟩
     rw [hK91] at hm
     refine cn hm (fun hm => ?_) fun hm => ?_
     ·exact rg (mi rfl (mi rfl (Gi rfl (Ni rfl ((ag) ⟨u35, maxI (z69.length : Int) (z80.length : Int), vI u35, v56, vI (maxI (z69.length : Int) (z80.length : Int)), W90, rfl, (((((((l38.j l44).j l49).j l56).j l61).j l71).j l82).j l90).w, rfl, hm⟩)))))
     ·exact sk ((ag) ⟨y12, y13, vI u35, v56, vI (maxI (z69.length : Int) (z80.length : Int)), W90, rfl, (((((((l38.j l44).j l49).j l56).j l61).j l71).j l82).j l90).w, rfl, hm⟩)
    ·refine rg (mi rfl (Lw.lt rfl (mb rfl (bs hm (fun hc100 hm => ?_) fun hc100 hm => ?_))))
     ·exact psk 3 hc100 rfl (Pb hc100 rfl (nl ((ag) ⟨true, W82, rfl, Le.refl _ _, rfl, hm⟩)))
     ·exact wak 3 hc100 (mi rfl (mi rfl (Lw.lt rfl (Pb hc100 rfl (nl ((ag) ⟨decide ((maxI (z69.length : Int) (z80.length : Int) : Int) < (y13 : Int)), W82, rfl, Le.refl _ _, rfl, hm⟩))))))
 ·refine Cw.exit ?_
  rw [hK19] at hm
  exact sr (mi rfl (Ni rfl (.ret (rt hm a21))))

theorem p34 {x0 v0_0_ v0_1_ x1 v1_ x2 r} (h0 : Rd W K [v0_0_, v0_1_] x0) (h1 : Rd W K [v1_] x1) (h99 : Gl 0 W K) (hm : Vm.impl_LogNext x0 x1 x2 = some r) : Q1 34 [.agg [v0_0_, v0_1_].toArray, v1_, vI x2] W [] fun W' v => v = vI r :=
 (c34 (h0.view _) (h1.view _) (h99.view _) hm).ad (fk 0) fun _ _ e => e

theorem c35 {x0 v0_0_ v0_1_ x1 v1_ x2 r} (h0 : Rd W0 [0] [v0_0_, v0_1_] x0) (h1 : Rd W0 [0] [v1_] x1) (hm : Vm.spec_LogNext x0 x1 x2 = some r) : Q0 35 [.agg [v0_0_, v0_1_].toArray, v1_, vI x2] W0 fun Wf v => v = vI r := by
 unfold Vm.spec_LogNext at hm
 obtain ⟨w0_0, w0_1, he0, h0_0, h0_1⟩ := Repo.split h0
 simp only [List.cons.injEq, and_true, true_and] at he0
 obtain ⟨rfl, rfl⟩ := he0
 refine CallR.of Tryz.func35 rfl rfl rfl rfl (sr (bo 2 rfl fun g1 W1 l1 b1 => ?_))
 have a2 := l1.o
 refine Ni rfl (sr (Ni rfl (sr (Ni rfl (sr (la b1 (mv v1_ rfl (mi rfl (cr hm (fun _ => p32 (k0 := 3) (Repo.rd (K := [0]) x0.Commits x0.Heads (h0_0.ul a2) (h0_1.ul a2)) (h1.ul a2)) ?_)))))))))
 rintro z6 v0_8 W8 hm l8 ⟨_, rfl, f8_0⟩
 have a9 := a2.n l8
 refine Nv v0_8 rfl (ssr (Ni rfl (Cw.block ?_)))
 obtain ⟨K17, hK17, hm⟩ := jn_e hm
 refine Cw.loop 17 65 [7, 8, 10, 11, 12] (fun m l w => ∃ y11 y12 y13 j14 j15 W16, CW.w W16 = w ∧ Le [4] W8 W16 ∧ l = [vI y11, vI y12, vI y13, j14, j15] ∧ Vm.spec_LogNext_l1 x0 x1 x2 z6 K17 m y11 y12 y13 = some r) _ ⟨(-1), 0, 0, undef, undef, W8, rfl, Le.refl _ _, rfl, hm⟩ ?_
 rintro (_ | m18) _ _ σ ⟨y11, y12, y13, j14, j15, W16, rfl, l16, rfl, hm⟩
 ·cases hm
 unfold Vm.spec_LogNext_l1 at hm
 have a19 := a9.t l16
 have o20 := f8_0.up l16
 refine ssr (mi rfl (mv v0_8 rfl (Lw.ln z6 o20.rd rfl (Lw.lt rfl (nl (cn hm (fun hm => ?_) fun hm => ?_))))))
 ·refine sk ?_
  obtain ⟨K28, hK28, hm⟩ := jn_e hm
  refine Cw.join 23 65 [7, 8, 11, 12] (fun l w => ∃ y23 y24 j25 j26 W27, CW.w W27 = w ∧ Le [4] W16 W27 ∧ l = [vI y23, vI y24, j25, j26] ∧ K28 y23 y24 = some r) ?_ ?_
  ·rintro _ _ σ ⟨y23, y24, j25, j26, W27, rfl, l27, rfl, hm⟩
   rw [hK28] at hm
   exact rg (mi rfl (Lw.add rfl (Ni rfl ((agm) ⟨y23, y24, w64 (y13 + 1), j25, j26, W27, rfl, (l16.j l27).w, rfl, hm⟩))))
  ·refine Cw.block (ssr (mv v0_8 rfl (mi rfl ?_)))
   obtain ⟨u32, e33, hm⟩ := ob hm
   refine Lw.r rfl (R.ix (α := Int) o20.rd e33 rfl rfl rfl) (Lw.r rfl (R.ld rfl rfl (o20.rd.at_ e33).int) (mi rfl (Lw.eq rfl (nl (cn hm (fun hm => ?_) fun hm => ?_)))))
   ·exact Cw.exit ((ag) ⟨y11, y12, j14, j15, W16, rfl, Le.refl _ _, rfl, hm⟩)
   ·refine sk (Cw.seq ?_)
    obtain ⟨q43, e44, hm⟩ := ob hm
    obtain ⟨u50, e51, hm⟩ := ob hm
    obtain ⟨q57, e58, hm⟩ := ob hm
    obtain ⟨z66, e67, hm⟩ := ob hm
    refine Cw.par [[], [], [], [1, 2], [], [], [4, 5], [4, 5, 6], [4, 5, 6, 7], [1, 2, 3, 4, 5, 6, 7, 8], [], [0, 1, 2, 3, 4, 5, 6, 7, 8, 9, 10], [0, 1, 2, 3, 4, 5, 6, 7, 8, 9, 10, 11], [0, 1, 2, 3, 4, 5, 6, 7, 8, 9, 10, 11, 12]] [[], [], [], [1, 2], [], [], [4, 5], [6], [7], [3, 8], [], [0, 9, 10], [11], [12]] [[], [], [], [4], [], [], [], [], [], [4], [], [], [], []] [[0], [1], [2], [3], [4], [5], [6], [7], [8], [9], [10], [11], [12], [13]] [[], [4], [], [4], [], [], [], [], [5], [4], [], [6], [], []] [0, 2, 4, 5, 6, 7, 8, 9, 10, 11, 12, 13] [4] [fun vs W => (vs 0) = .agg [v0_0_, v0_1_].toArray, fun vs W => Ow W 4 [] [(vs 1)] ([] : List Int), fun vs W => (vs 2) = v1_, fun vs W => Ow W 4 [] [(vs 3)] q43, fun vs W => (vs 4) = v0_8, fun vs W => (vs 5) = vI y13, fun vs W => (vs 6) = ptr ((slA v0_8).add ((y13).toNat * Rp.sz (Int))), fun vs W => (vs 7) = vI u50, fun vs W => (vs 8) = .slice (some (bx (pg (vs 8)))) 1 1 ∧ Bx W 5 (pg (vs 8)) [vI u50], fun vs W => Ow W 4 [] [(vs 9)] q57, fun vs W => (vs 10) = vI x2, fun vs W => Ow W 6 [] [(vs 11)] z66, fun vs W => (vs 12) = vI (z66.length : Int), fun vs W => (vs 13) = vI (z66.length : Int)] [] mixed (by kernel_rfl) rfl AllF.nil ?_
    intro W74 l74
    have a75 := a19.n l74
    have o76 := o20.up l74
    have b77 := ((b1.up l8).up l16).up l74
    refine ⟨(Steps.cons ?_ (Steps.cons ?_ (Steps.cons ?_ (Steps.cons ?_ (Steps.cons ?_ (Steps.cons ?_ (Steps.cons ?_ (Steps.cons ?_ (Steps.cons ?_ (Steps.cons ?_ (Steps.cons ?_ (Steps.cons ?_ (Steps.cons ?_ (Steps.cons ?_ Steps.nil)))))))))))))), (Sups.cons (fun vs vs' W W' _ hv l hd h => by (show (vs' 0) = .agg [v0_0_, v0_1_].toArray); rw [hv 0 (anyb rfl)]; exact h) (Sups.cons (fun vs vs' W W' _ hv l hd h => by (show Ow W' 4 [] [(vs' 1)] ([] : List Int)); rw [hv 1 (anyb rfl)]; exact h.upv l (disj_mem hd (c := 4) rfl)) (Sups.cons (fun vs vs' W W' _ hv l hd h => by (show (vs' 2) = v1_); rw [hv 2 (anyb rfl)]; exact h) (Sups.cons (fun vs vs' W W' _ hv l hd h => by (show Ow W' 4 [] [(vs' 3)] q43); rw [hv 3 (anyb rfl)]; exact h.upv l (disj_mem hd (c := 4) rfl)) (Sups.cons (fun vs vs' W W' _ hv l hd h => by (show (vs' 4) = v0_8); rw [hv 4 (anyb rfl)]; exact h) (Sups.cons (fun vs vs' W W' _ hv l hd h => by (show (vs' 5) = vI y13); rw [hv 5 (anyb rfl)]; exact h) (Sups.cons (fun vs vs' W W' _ hv l hd h => by (show (vs' 6) = ptr ((slA v0_8).add ((y13).toNat * Rp.sz (Int)))); rw [hv 6 (anyb rfl)]; exact h) (Sups.cons (fun vs vs' W W' _ hv l hd h => by (show (vs' 7) = vI u50); rw [hv 7 (anyb rfl)]; exact h) (Sups.cons (fun vs vs' W W' _ hv l hd h => by (show (vs' 8) = .slice (some (bx (pg (vs' 8)))) 1 1 ∧ Bx W' 5 (pg (vs' 8)) [vI u50]); rw [hv 8 (anyb rfl)]; exact ⟨h.1, h.2.up l (disj_mem hd (c := 5) rfl)⟩) (Sups.cons (fun vs vs' W W' _ hv l hd h => by (show Ow W' 4 [] [(vs' 9)] q57); rw [hv 9 (anyb rfl)]; exact h.upv l (disj_mem hd (c := 4) rfl)) (Sups.cons (fun vs vs' W W' _ hv l hd h => by (show (vs' 10) = vI x2); rw [hv 10 (anyb rfl)]; exact h) (Sups.cons (fun vs vs' W W' _ hv l hd h => by (show Ow W' 6 [] [(vs' 11)] z66); rw [hv 11 (anyb rfl)]; exact h.upv l (disj_mem hd (c := 6) rfl)) (Sups.cons (fun vs vs' W W' _ hv l hd h => by (show (vs' 12) = vI (z66.length : Int)); rw [hv 12 (anyb rfl)]; exact h) (Sups.cons (fun vs vs' W W' _ hv l hd h => by (show (vs' 13) = vI (z66.length : Int)); rw [hv 13 (anyb rfl)]; exact h) Sups.nil)))))))))))))), ?_⟩
    ·intro vs W lW hN
     obtain ⟨W78, hW78⟩ : ∃ X, X = W := ⟨W, rfl⟩
     subst hW78
     refine Tr.mono (Run.tr (R.lda (cs := [v0_0_, v0_1_]) (b77.up lW rfl).cells rfl rfl)) ?_
     rintro _ _ ⟨hu, rfl⟩
     obtain rfl := hu.symm
     exact ⟨W78, rfl, Le.refl _ _, (show (.agg [v0_0_, v0_1_].toArray : Value) = .agg [v0_0_, v0_1_].toArray from rfl)⟩
    ·intro vs W lW hN
     obtain ⟨W82, hW82⟩ : ∃ X, X = W := ⟨W, rfl⟩
     subst hW82
     refine Tr.mono (T.lit0 (α := Int) 4 []) ?_
     rintro v86 _ ⟨W86, rfl, l86, o86⟩
     exact ⟨W86, rfl, l86, (show Ow W86 4 [] [v86] ([] : List Int) from o86)⟩
    ·intro vs W lW hN
     obtain ⟨W90, hW90⟩ : ∃ X, X = W := ⟨W, rfl⟩
     subst hW90
     refine Tr.mono (Run.tr (R.mv (v := v1_) rfl)) ?_
     rintro _ _ ⟨hu, rfl⟩
     obtain rfl := hu.symm
     exact ⟨W90, rfl, Le.refl _ _, (show (v1_ : Value) = v1_ from rfl)⟩
    ·intro vs W lW hN
     obtain ⟨W94, hW94⟩ : ∃ X, X = W := ⟨W, rfl⟩
     subst hW94
     have a95 := a75.t lW rfl
     obtain ⟨pv1, e1_⟩ : ∃ v, vs 1 = v := ⟨_, rfl⟩
     obtain ⟨vs, rfl⟩ := up_eq e1_
     have o98 : Ow W94 4 [] [pv1] ([] : List Int) := (hN 1 (anyb rfl))
     have e2_ : vs 2 = v1_ := (hN 2 (anyb rfl))
     obtain ⟨vs, rfl⟩ := up_eq e2_
     refine Tr.mono (T.appP (α := Int) o98 (h1.ul a95) rfl rfl e44) ?_
     rintro v99 _ ⟨W99, rfl, l99, o99⟩
     exact ⟨W99, rfl, l99, (show Ow W99 4 [] [v99] q43 from o99)⟩
    ·intro vs W lW hN
     obtain ⟨W104, hW104⟩ : ∃ X, X = W := ⟨W, rfl⟩
     subst hW104
     refine Tr.mono (Run.tr (R.mv (v := v0_8) rfl)) ?_
     rintro _ _ ⟨hu, rfl⟩
     obtain rfl := hu.symm
     exact ⟨W104, rfl, Le.refl _ _, (show (v0_8 : Value) = v0_8 from rfl)⟩
    ·intro vs W lW hN
     obtain ⟨W108, hW108⟩ : ∃ X, X = W := ⟨W, rfl⟩
     subst hW108
     refine Tr.mono (Run.tr (R.mv (v := vI y13) rfl)) ?_
     rintro _ _ ⟨hu, rfl⟩
     obtain rfl := hu.symm
     exact ⟨W108, rfl, Le.refl _ _, (show (vI y13 : Value) = vI y13 from rfl)⟩
    ·intro vs W lW hN
     obtain ⟨W112, hW112⟩ : ∃ X, X = W := ⟨W, rfl⟩
     subst hW112
     have e4_ : vs 4 = v0_8 := (hN 4 (anyb rfl))
     obtain ⟨vs, rfl⟩ := up_eq e4_
     have e5_ : vs 5 = vI y13 := (hN 5 (anyb rfl))
     obtain ⟨vs, rfl⟩ := up_eq e5_
     refine Tr.mono (Run.tr (R.ix (α := Int) (o76.up lW rfl).rd e51 rfl rfl rfl)) ?_
     rintro _ _ ⟨hu, rfl⟩
     obtain rfl := hu.symm
     exact ⟨W112, rfl, Le.refl _ _, (show (ptr ((slA v0_8).add ((y13).toNat * Rp.sz (Int))) : Value) = ptr ((slA v0_8).add ((y13).toNat * Rp.sz (Int))) from rfl)⟩
    ·intro vs W lW hN
     obtain ⟨W116, hW116⟩ : ∃ X, X = W := ⟨W, rfl⟩
     subst hW116
     have e6_ : vs 6 = ptr ((slA v0_8).add ((y13).toNat * Rp.sz (Int))) := (hN 6 (anyb rfl))
     obtain ⟨vs, rfl⟩ := up_eq e6_
     refine Tr.mono (Run.tr (R.ld rfl rfl ((o76.up lW rfl).rd.at_ e51).int)) ?_
     rintro _ _ ⟨hu, rfl⟩
     obtain rfl := hu.symm
     exact ⟨W116, rfl, Le.refl _ _, (show (vI u50 : Value) = vI u50 from rfl)⟩
    ·intro vs W lW hN
     obtain ⟨W120, hW120⟩ : ∃ X, X = W := ⟨W, rfl⟩
     subst hW120
     have e7_ : vs 7 = vI u50 := (hN 7 (anyb rfl))
     obtain ⟨vs, rfl⟩ := up_eq e7_
     refine Tr.mono (T.bs 5 [vI u50] (cs := [vI u50]) rfl rfl (bsv rfl)) ?_
     rintro _ _ ⟨g124, W124, rfl, rfl, l124, b124⟩
     exact ⟨W124, rfl, l124, (show (.slice (some (bx g124)) 1 1 : Value) = .slice (some (bx g124)) 1 1 ∧ Bx W124 5 g124 [vI u50] from ⟨rfl, b124⟩)⟩
    ·intro vs W lW hN
     obtain ⟨W128, hW128⟩ : ∃ X, X = W := ⟨W, rfl⟩
     subst hW128
     obtain ⟨pv3, e3_⟩ : ∃ v, vs 3 = v := ⟨_, rfl⟩
     obtain ⟨vs, rfl⟩ := up_eq e3_
     have o132 : Ow W128 4 [] [pv3] q43 := (hN 3 (anyb rfl))
     obtain ⟨pg8, e8_⟩ : ∃ pg8, vs 8 = .slice (some (bx pg8)) 1 1 := ⟨_, ((hN 8 (anyb rfl))).1⟩
     obtain ⟨vs, rfl⟩ := up_eq e8_
     have o133 : Bx W128 5 pg8 [vI u50] := (hN 8 (anyb rfl)).2
     refine Tr.mono (T.app1S (α := Int) (K' := []) o132 o133 (rdI _) rfl rfl e58) ?_
     rintro v134 _ ⟨W134, rfl, l134, o134⟩
     exact ⟨W134, rfl, l134, (show Ow W134 4 [] [v134] q57 from o134)⟩
    ·intro vs W lW hN
     obtain ⟨W139, hW139⟩ : ∃ X, X = W := ⟨W, rfl⟩
     subst hW139
     refine Tr.mono (Run.tr (R.mv (v := vI x2) rfl)) ?_
     rintro _ _ ⟨hu, rfl⟩
     obtain rfl := hu.symm
     exact ⟨W139, rfl, Le.refl _ _, (show (vI x2 : Value) = vI x2 from rfl)⟩
    ·intro vs W lW hN
     obtain ⟨W143, hW143⟩ : ∃ X, X = W := ⟨W, rfl⟩
     subst hW143
     have a144 := a75.t lW rfl
     have e0_ : vs 0 = .agg [v0_0_, v0_1_].toArray := (hN 0 (anyb rfl))
     obtain ⟨vs, rfl⟩ := up_eq e0_
     obtain ⟨pv9, e9_⟩ : ∃ v, vs 9 = v := ⟨_, rfl⟩
     obtain ⟨vs, rfl⟩ := up_eq e9_
     have o147 : Ow W143 4 [] [pv9] q57 := (hN 9 (anyb rfl))
     have e10_ : vs 10 = vI x2 := (hN 10 (anyb rfl))
     obtain ⟨vs, rfl⟩ := up_eq e10_
     refine Tr.mono (T.call rfl (p64 (K := [0, 4]) (k0 := 6) ((Repo.rd (K := [0]) x0.Commits x0.Heads (h0_0.ul a144) (h0_1.ul a144)).sub (M := [0, 4]) rfl) (o147.rd.sub (M := [0, 4]) rfl) e67)) ?_
     rintro v0_150 _ ⟨W150, rfl, l150, ⟨_, rfl, f150_0⟩⟩
     exact ⟨W150, rfl, l150, (show Ow W150 6 [] [v0_150] z66 from f150_0)⟩
    ·intro vs W lW hN
     obtain ⟨W155, hW155⟩ : ∃ X, X = W := ⟨W, rfl⟩
     subst hW155
     obtain ⟨pv11, e11_⟩ : ∃ v, vs 11 = v := ⟨_, rfl⟩
     obtain ⟨vs, rfl⟩ := up_eq e11_
     have o159 : Ow W155 6 [] [pv11] z66 := (hN 11 (anyb rfl))
     refine Tr.mono (Run.tr (lenR (xs := z66) o159.rd rfl)) ?_
     rintro _ _ ⟨hu, rfl⟩
     obtain rfl := hu.symm
     exact ⟨W155, rfl, Le.refl _ _, (show (vI (z66.length : Int) : Value) = vI (z66.length : Int) from rfl)⟩
    ·intro vs W lW hN
     obtain ⟨W160, hW160⟩ : ∃ X, X = W := ⟨W, rfl⟩
     subst hW160
     have e12_ : vs 12 = vI (z66.length : Int) := (hN 12 (anyb rfl))
     obtain ⟨vs, rfl⟩ := up_eq e12_
     refine Tr.mono (Run.tr (R.as (v := vI (z66.length : Int)) rfl)) ?_
     rintro _ _ ⟨hu, rfl⟩
     obtain rfl := hu.symm
     exact ⟨W160, rfl, Le.refl _ _, (show (vI (z66.length : Int) : Value) = vI (z66.length : Int) from rfl)⟩
    ·intro vs W lW hN
     obtain ⟨W164, hW164⟩ : ∃ X, X = W := ⟨W, rfl⟩
     subst hW164
     have a165 := a75.t lW rfl
     obtain ⟨l164, hl164⟩ : ∃ x, x = lW := ⟨lW, rfl⟩
     have e0_ : vs 0 = .agg [v0_0_, v0_1_].toArray := (hN 0 (anyb rfl))
     obtain ⟨vs, rfl⟩ := up_eq e0_
     have e2_ : vs 2 = v1_ := (hN 2 (anyb rfl))
     obtain ⟨vs, rfl⟩ := up_eq e2_
     have e4_ : vs 4 = v0_8 := (hN 4 (anyb rfl))
     obtain ⟨vs, rfl⟩ := up_eq e4_
     have e5_ : vs 5 = vI y13 := (hN 5 (anyb rfl))
     obtain ⟨vs, rfl⟩ := up_eq e5_
     have e6_ : vs 6 = ptr ((slA v0_8).add ((y13).toNat * Rp.sz (Int))) := (hN 6 (anyb rfl))
     obtain ⟨vs, rfl⟩ := up_eq e6_
     have e7_ : vs 7 = vI u50 := (hN 7 (anyb rfl))
     obtain ⟨vs, rfl⟩ := up_eq e7_
     obtain ⟨pg8, e8_⟩ : ∃ pg8, vs 8 = .slice (some (bx pg8)) 1 1 := ⟨_, ((hN 8 (anyb rfl))).1⟩
     obtain ⟨vs, rfl⟩ := up_eq e8_
     have o168 : Bx W164 5 pg8 [vI u50] := (hN 8 (anyb rfl)).2
     obtain ⟨pv9, e9_⟩ : ∃ v, vs 9 = v := ⟨_, rfl⟩
     obtain ⟨vs, rfl⟩ := up_eq e9_
     have o169 : Ow W164 4 [] [pv9] q57 := (hN 9 (anyb rfl))
     have e10_ : vs 10 = vI x2 := (hN 10 (anyb rfl))
     obtain ⟨vs, rfl⟩ := up_eq e10_
     obtain ⟨pv11, e11_⟩ : ∃ v, vs 11 = v := ⟨_, rfl⟩
     obtain ⟨vs, rfl⟩ := up_eq e11_
     have o170 : Ow W164 6 [] [pv11] z66 := (hN 11 (anyb rfl))
     have e12_ : vs 12 = vI (z66.length : Int) := (hN 12 (anyb rfl))
     obtain ⟨vs, rfl⟩ := up_eq e12_
     have e13_ : vs 13 = vI (z66.length : Int) := (hN 13 (anyb rfl))
     obtain ⟨vs, rfl⟩ := up_eq e13_
     refine Cw.seq (Cw.draw [] [(0, 1), (1, 0), (2, 0), (3, 0), (4, 0), (5, 1), (6, 3), (7, 0), (8, 0)] mixed (by kernel_rfl) fun W171 l171 => ?_)
     have a172 := a165.n l171
     have o173 := (o76.up lW rfl).up l171
     refine Mw.q rfl rfl (fun _ c => R.lda (cs := [v0_0_, v0_1_]) (((b77.up lW rfl).up l171).clcs rfl c) rfl rfl) (Dv v1_ rfl (Dv v0_8 rfl (Di rfl ?_)))
     obtain ⟨u178, e179, hm⟩ := ob hm
     refine Mw.p rfl rfl (fun _ => R.ix (α := Int) o173.rd e179 rfl rfl rfl) (Mw.q rfl rfl (fun _ c => R.ld rfl rfl (cl_cell (o173.rd.at_ e179).1 rfl (o173.rd.at_ e179).int c)) ?_)
     obtain ⟨z183, e184, hm⟩ := ob hm
     refine Mw.l rfl rfl (T.call rfl (p64 (k0 := 7) (Repo.rd (K := [0]) x0.Commits x0.Heads (h0_0.ul a172) (h0_1.ul a172)) (h1.ul a172) e184)) ?_
     rintro v0_185 _ ⟨W185, rfl, l185, ⟨_, rfl, f185_0⟩⟩
     refine Mw.p rfl rfl (fun _ => lenR (xs := z183) f185_0.rd rfl) (Hi rfl (Mw.nil ?_))
     obtain ⟨K194, hK194, hm⟩ := jn_e hm
     refine Cw.join 50 53 [11] (fun l w => ∃ y192 W193, CW.w W193 = w ∧ Le [] W185 W193 ∧ l = [vI y192] ∧ K194 y192 = some r) ?_ ?_
     ·rintro _ _ σ ⟨y192, W193, rfl, l193, rfl, hm⟩
      rw [hK194] at hm
      obtain ⟨K204, hK204, hm⟩ := jn_e hm
      refine Cw.join 54 60 [60] (fun l w => ∃ y202 W203, CW.w W203 = w ∧ Le [] W193 W203 ∧ l = [vB y202] ∧ K204 y202 = some r) ?_ ?_
      ·rintro _ _ σ ⟨y202, W203, rfl, l203, rfl, hm⟩
       rw [hK204] at hm
       have o206 := ((o173.up l185).up l193).up l203
       refine cn hm (fun hm => ?_) fun hm => ?_
       ·refine sr (mv v0_8 rfl (mi rfl ?_))
        obtain ⟨u213, e214, hm⟩ := ob hm
        exact Lw.r rfl (R.ix (α := Int) o206.rd e214 rfl rfl rfl) (Lw.r rfl (R.ld rfl rfl (o206.rd.at_ e214).int) (Ni rfl (rg (mi rfl (Ni rfl ((ag) ⟨u213, y192, vI y192, vI (z183.length : Int), W203, rfl, (((((l74.j l164).j l171).j l185).j l193).j l203).w, rfl, hm⟩))))))
       ·exact sk ((ag) ⟨y11, y12, vI y192, vI (z183.length : Int), W203, rfl, (((((l74.j l164).j l171).j l185).j l193).j l203).w, rfl, hm⟩)
      ·refine rg (mi rfl (Lw.lt rfl (mb rfl (bs hm (fun hc215 hm => ?_) fun hc215 hm => ?_))))
       ·exact psk 3 hc215 rfl (Pb hc215 rfl (nl ((ag) ⟨true, W193, rfl, Le.refl _ _, rfl, hm⟩)))
       ·exact wak 3 hc215 (mi rfl (mi rfl (Lw.lt rfl (Pb hc215 rfl (nl ((ag) ⟨decide ((y192 : Int) < (y12 : Int)), W193, rfl, Le.refl _ _, rfl, hm⟩))))))
     ·refine sr (mi rfl (mi rfl (Lw.gt rfl (nl (cn hm (fun hm => ?_) fun hm => ?_)))))
      ·exact rg (mi rfl (Ni rfl ((ag) ⟨(z183.length : Int), W185, rfl, Le.refl _ _, rfl, hm⟩)))
      ·exact sk ((ag) ⟨(z66.length : Int), W185, rfl, Le.refl _ _, rfl, hm⟩)
 ·refine Cw.exit ?_
  rw [hK17] at hm
  exact sr (mi rfl (Ni rfl (.ret (rt hm a19))))

theorem p35 {x0 v0_0_ v0_1_ x1 v1_ x2 r} (h0 : Rd W K [v0_0_, v0_1_] x0) (h1 : Rd W K [v1_] x1) (hm : Vm.spec_LogNext x0 x1 x2 = some r) : Q1 35 [.agg [v0_0_, v0_1_].toArray, v1_, vI x2] W [] fun W' v => v = vI r :=
 (c35 (h0.view _) (h1.view _) hm).ad (fk 0) fun _ _ e => e

theorem c9 {x0 v0_ r} (h0 : Rd W0 [0] [v0_] x0) (h99 : Gl 0 W0 [0]) (hm : Vm.laws_FnLogNext x0 = some r) : Q0 9 [v0_] W0 fun Wf v => v = vB r := by
 unfold Vm.laws_FnLogNext at hm
 refine CallR.of Tryz.func9 rfl rfl rfl rfl (sr (Nb rfl (ssr (mv v0_ rfl (Lw.ln x0 h0 rfl (Lw.gt rfl (nl (cn hm (fun hm => ?_) fun hm => ?_))))))))
 ·exact sr (Nb rfl (.ret (rt hm (Le.refl _ _))))
 ·refine sk (sr (mv v0_ rfl (cr hm (fun _ => p33 (k0 := 2) (k1 := 3) (k2 := 4) h0) ?_)))
  rintro z2 _ W4 hm l4 ⟨v0_0_4, v0_1_4, v1_4, rfl, f4_0, f4_1, f4_2⟩
  have a5 := l4.o
  refine mv (.tuple [.agg [v0_0_4, v0_1_4].toArray, v1_4, vI z2.2.2].toArray) rfl (Lw.r rfl (R.ext (vs := [.agg [v0_0_4, v0_1_4].toArray, v1_4, vI z2.2.2]) (v := .agg [v0_0_4, v0_1_4].toArray) rfl rfl) (Lw.r rfl (R.ext (vs := [.agg [v0_0_4, v0_1_4].toArray, v1_4, vI z2.2.2]) (v := v1_4) rfl rfl) (Lw.r rfl (R.ext (vs := [.agg [v0_0_4, v0_1_4].toArray, v1_4, vI z2.2.2]) (v := vI z2.2.2) rfl rfl) (al 5 [.slice none 0 0, .slice none 0 0] fun g6 W6 l6 b6 => ?_))))
  have a7 := a5.n l6
  refine sta b6 (oc_cons (f4_0.up l6).oc (oc_cons (f4_1.up l6).oc oc_nil)) fun W11 l11 b11 => ?_
  have a12 := a7.t l11
  have o13 := (f4_0.up l6).up l11
  have o14 := (f4_1.up l6).up l11
  have o15 := (f4_2.up l6).up l11
  refine Gv v1_4 rfl (Ni rfl (sr (la b11 (mv v1_4 rfl (mi rfl (ca hm (fun _ => p34 (K := [0, 2, 3, 4]) (x0 := (Vm.Repo.mk z2.1.Commits z2.1.Heads)) ((Repo.rd (K := [2, 3]) z2.1.Commits z2.1.Heads (o13.rd.sub (M := [2, 3]) rfl) (o14.rd.sub (M := [2, 3]) rfl)).sub (M := [0, 2, 3, 4]) rfl) (o15.rd.sub (M := [0, 2, 3, 4]) rfl) ((h99.ul a12).sub (M := [0, 2, 3, 4]) rfl)) fun z17 W19 hm l19 => ?_))))))
  have a20 := a12.n l19
  refine Ni rfl (sr (la (b11.up l19) (mv v1_4 rfl (mi rfl (cr hm (fun _ => p31 (K := [0, 2, 3, 4]) (k0 := 6) (x0 := (Vm.Repo.mk z2.1.Commits z2.1.Heads)) ((Repo.rd (K := [2, 3]) z2.1.Commits z2.1.Heads ((o13.up l19).rd.sub (M := [2, 3]) rfl) ((o14.up l19).rd.sub (M := [2, 3]) rfl)).sub (M := [0, 2, 3, 4]) rfl) ((o15.up l19).rd.sub (M := [0, 2, 3, 4]) rfl) ((h99.ul a20).sub (M := [0, 2, 3, 4]) rfl)) ?_)))))
  rintro z26 v0_28 W28 hm l28 ⟨_, rfl, f28_0⟩
  have a29 := a20.n l28
  have o30 := (o13.up l19).up l28
  have o31 := (o14.up l19).up l28
  have o32 := (o15.up l19).up l28
  have b33 := (b11.up l19).up l28
  refine Nv v0_28 rfl (Cw.seq ?_)
  obtain ⟨K36, hK36, hm⟩ := jn_e hm
  refine Cw.join 27 37 [37] (fun l w => ∃ y34 W35, CW.w W35 = w ∧ Le [] W28 W35 ∧ l = [vB y34] ∧ K36 y34 = some r) ?_ ?_
  ·rintro _ _ σ ⟨y34, W35, rfl, l35, rfl, hm⟩
   rw [hK36] at hm
   have a37 := a29.n l35
   have o41 := f28_0.up l35
   refine cn hm (fun hm => ?_) fun hm => ?_
   ·refine sr (mi rfl (la (b33.up l35) (mv v1_4 rfl (mi rfl (ca hm (fun _ => p35 (K := [2, 3, 4]) (x0 := (Vm.Repo.mk z2.1.Commits z2.1.Heads)) ((Repo.rd (K := [2, 3]) z2.1.Commits z2.1.Heads ((o30.up l35).rd.sub (M := [2, 3]) rfl) ((o31.up l35).rd.sub (M := [2, 3]) rfl)).sub (M := [2, 3, 4]) rfl) ((o32.up l35).rd.sub (M := [2, 3, 4]) rfl)) fun z44 W46 hm l46 => ?_)))))
    have a47 := a37.n l46
    exact Lw.eq rfl (Nb rfl (.ret (rt hm a47)))
   ·refine sk (ssr (mi rfl (Lw.lt rfl (nl (cn hm (fun hm => ?_) fun hm => ?_)))))
    ·obtain ⟨K56, hK56, hm⟩ := jn_e hm
     refine Cw.join 46 55 [2] (fun l w => ∃ y54 W55, CW.w W55 = w ∧ Le [] W35 W55 ∧ l = [vB y54] ∧ K56 y54 = some r) ?_ ?_
     ·rintro _ _ σ ⟨y54, W55, rfl, l55, rfl, hm⟩
      rw [hK56] at hm
      have a57 := a37.n l55
      exact .ret (rt hm a57)
     ·refine rg (mv v0_28 rfl (Lw.ln z26 o41.rd rfl (Lw.eq rfl (mb rfl (bs hm (fun hc63 hm => ?_) fun hc63 hm => ?_)))))
      ·refine wak 5 hc63 (mv v0_28 rfl ?_)
       obtain ⟨u64, e65, hm⟩ := ob hm
       exact Lw.r rfl (R.ix (α := Int) o41.rd e65 rfl rfl rfl) (Lw.r rfl (R.ld rfl rfl (o41.rd.at_ e65).int) (mi rfl (Lw.eq rfl (Pb hc63 rfl (Nb rfl ((ag) ⟨((u64 : Int) == (z2.2.2 : Int)), W35, rfl, Le.refl _ _, rfl, hm⟩))))))
      ·exact psk 5 hc63 rfl (Pb hc63 rfl (Nb rfl ((ag) ⟨false, W35, rfl, Le.refl _ _, rfl, hm⟩)))
    ·refine sk (Cw.seq ?_)
     obtain ⟨q80, e81, hm⟩ := ob hm
     obtain ⟨q97, e98, hm⟩ := ob hm
     obtain ⟨z108, e109, hm⟩ := ob hm
     refine Cw.par [[], [], [], [1, 2], [], [4], [1, 2, 3, 4, 5], [], [0, 1, 2, 3, 4, 5, 6, 7], [0, 1, 2, 3, 4, 5, 6, 7, 8]] [[], [], [], [1, 2], [], [4], [3, 5], [], [0, 6, 7], [8]] [[], [], [], [7], [], [], [7], [], [], []] [[0], [1], [2], [3], [4], [5], [6], [7], [8], [8, 9]] [[], [7], [], [7], [], [8], [7], [], [9], []] [0, 2, 4, 5, 6, 7, 8, 9] [7] [fun vs W => (vs 0) = .agg [v0_0_4, v0_1_4].toArray, fun vs W => Ow W 7 [] [(vs 1)] ([] : List Int), fun vs W => (vs 2) = v1_4, fun vs W => Ow W 7 [] [(vs 3)] q80, fun vs W => (vs 4) = vI z17, fun vs W => (vs 5) = .slice (some (bx (pg (vs 5)))) 1 1 ∧ Bx W 8 (pg (vs 5)) [vI z17], fun vs W => Ow W 7 [] [(vs 6)] q97, fun vs W => (vs 7) = vI z2.2.2, fun vs W => Ow W 9 [] [(vs 8)] z108, fun vs W => (vs 9) = (vs 8)] [] mixed (by kernel_rfl) rfl AllF.nil ?_
     intro W119 l119
     have a120 := a37.n l119
     have o121 := (o30.up l35).up l119
     have o122 := (o31.up l35).up l119
     have o123 := (o32.up l35).up l119
     have b125 := (b33.up l35).up l119
     refine ⟨(Steps.cons ?_ (Steps.cons ?_ (Steps.cons ?_ (Steps.cons ?_ (Steps.cons ?_ (Steps.cons ?_ (Steps.cons ?_ (Steps.cons ?_ (Steps.cons ?_ (Steps.cons ?_ Steps.nil)))))))))), (Sups.cons (fun vs vs' W W' _ hv l hd h => by (show (vs' 0) = .agg [v0_0_4, v0_1_4].toArray); rw [hv 0 (anyb rfl)]; exact h) (Sups.cons (fun vs vs' W W' _ hv l hd h => by (show Ow W' 7 [] [(vs' 1)] ([] : List Int)); rw [hv 1 (anyb rfl)]; exact h.upv l (disj_mem hd (c := 7) rfl)) (Sups.cons (fun vs vs' W W' _ hv l hd h => by (show (vs' 2) = v1_4); rw [hv 2 (anyb rfl)]; exact h) (Sups.cons (fun vs vs' W W' _ hv l hd h => by (show Ow W' 7 [] [(vs' 3)] q80); rw [hv 3 (anyb rfl)]; exact h.upv l (disj_mem hd (c := 7) rfl)) (Sups.cons (fun vs vs' W W' _ hv l hd h => by (show (vs' 4) = vI z17); rw [hv 4 (anyb rfl)]; exact h) (Sups.cons (fun vs vs' W W' _ hv l hd h => by (show (vs' 5) = .slice (some (bx (pg (vs' 5)))) 1 1 ∧ Bx W' 8 (pg (vs' 5)) [vI z17]); rw [hv 5 (anyb rfl)]; exact ⟨h.1, h.2.up l (disj_mem hd (c := 8) rfl)⟩) (Sups.cons (fun vs vs' W W' _ hv l hd h => by (show Ow W' 7 [] [(vs' 6)] q97); rw [hv 6 (anyb rfl)]; exact h.upv l (disj_mem hd (c := 7) rfl)) (Sups.cons (fun vs vs' W W' _ hv l hd h => by (show (vs' 7) = vI z2.2.2); rw [hv 7 (anyb rfl)]; exact h) (Sups.cons (fun vs vs' W W' _ hv l hd h => by (show Ow W' 9 [] [(vs' 8)] z108); rw [hv 8 (anyb rfl)]; exact h.upv l (disj_mem hd (c := 9) rfl)) (Sups.cons (fun vs vs' W W' _ hv l hd h => by (show (vs' 9) = (vs' 8)); rw [hv 8 (anyb rfl), hv 9 (anyb rfl)]; exact h) Sups.nil)))))))))), ?_⟩
     ·intro vs W lW hN
      obtain ⟨W126, hW126⟩ : ∃ X, X = W := ⟨W, rfl⟩
      subst hW126
      refine Tr.mono (Run.tr (R.lda (cs := [v0_0_4, v0_1_4]) (b125.up lW rfl).cells rfl rfl)) ?_
      rintro _ _ ⟨hu, rfl⟩
      obtain rfl := hu.symm
      exact ⟨W126, rfl, Le.refl _ _, (show (.agg [v0_0_4, v0_1_4].toArray : Value) = .agg [v0_0_4, v0_1_4].toArray from rfl)⟩
     ·intro vs W lW hN
      obtain ⟨W133, hW133⟩ : ∃ X, X = W := ⟨W, rfl⟩
      subst hW133
      refine Tr.mono (T.lit0 (α := Int) 7 []) ?_
      rintro v140 _ ⟨W140, rfl, l140, o140⟩
      exact ⟨W140, rfl, l140, (show Ow W140 7 [] [v140] ([] : List Int) from o140)⟩
     ·intro vs W lW hN
      obtain ⟨W147, hW147⟩ : ∃ X, X = W := ⟨W, rfl⟩
      subst hW147
      refine Tr.mono (Run.tr (R.mv (v := v1_4) rfl)) ?_
      rintro _ _ ⟨hu, rfl⟩
      obtain rfl := hu.symm
      exact ⟨W147, rfl, Le.refl _ _, (show (v1_4 : Value) = v1_4 from rfl)⟩
     ·intro vs W lW hN
      obtain ⟨W154, hW154⟩ : ∃ X, X = W := ⟨W, rfl⟩
      subst hW154
      obtain ⟨pv1, e1_⟩ : ∃ v, vs 1 = v := ⟨_, rfl⟩
      obtain ⟨vs, rfl⟩ := up_eq e1_
      have o161 : Ow W154 7 [] [pv1] ([] : List Int) := (hN 1 (anyb rfl))
      have e2_ : vs 2 = v1_4 := (hN 2 (anyb rfl))
      obtain ⟨vs, rfl⟩ := up_eq e2_
      refine Tr.mono (T.appP (α := Int) o161 (o123.up lW rfl).rd rfl rfl e81) ?_
      rintro v162 _ ⟨W162, rfl, l162, o162⟩
      exact ⟨W162, rfl, l162, (show Ow W162 7 [] [v162] q80 from o162)⟩
     ·intro vs W lW hN
      obtain ⟨W169, hW169⟩ : ∃ X, X = W := ⟨W, rfl⟩
      subst hW169
      refine Tr.mono (Run.tr (R.mv (v := vI z17) rfl)) ?_
      rintro _ _ ⟨hu, rfl⟩
      obtain rfl := hu.symm
      exact ⟨W169, rfl, Le.refl _ _, (show (vI z17 : Value) = vI z17 from rfl)⟩
     ·intro vs W lW hN
      obtain ⟨W176, hW176⟩ : ∃ X, X = W := ⟨W, rfl⟩
      subst hW176
      have e4_ : vs 4 = vI z17 := (hN 4 (anyb rfl))
      obtain ⟨vs, rfl⟩ := up_eq e4_
      refine Tr.mono (T.bs 8 [vI z17] (cs := [vI z17]) rfl rfl (bsv rfl)) ?_
      rintro _ _ ⟨g183, W183, rfl, rfl, l183, b183⟩
      exact ⟨W183, rfl, l183, (show (.slice (some (bx g183)) 1 1 : Value) = .slice (some (bx g183)) 1 1 ∧ Bx W183 8 g183 [vI z17] from ⟨rfl, b183⟩)⟩
     ·intro vs W lW hN
      obtain ⟨W190, hW190⟩ : ∃ X, X = W := ⟨W, rfl⟩
      subst hW190
      obtain ⟨pv3, e3_⟩ : ∃ v, vs 3 = v := ⟨_, rfl⟩
      obtain ⟨vs, rfl⟩ := up_eq e3_
      have o197 : Ow W190 7 [] [pv3] q80 := (hN 3 (anyb rfl))
      obtain ⟨pg5, e5_⟩ : ∃ pg5, vs 5 = .slice (some (bx pg5)) 1 1 := ⟨_, ((hN 5 (anyb rfl))).1⟩
      obtain ⟨vs, rfl⟩ := up_eq e5_
      have o198 : Bx W190 8 pg5 [vI z17] := (hN 5 (anyb rfl)).2
      refine Tr.mono (T.app1S (α := Int) (K' := []) o197 o198 (rdI _) rfl rfl e98) ?_
      rintro v199 _ ⟨W199, rfl, l199, o199⟩
      exact ⟨W199, rfl, l199, (show Ow W199 7 [] [v199] q97 from o199)⟩
     ·intro vs W lW hN
      obtain ⟨W207, hW207⟩ : ∃ X, X = W := ⟨W, rfl⟩
      subst hW207
      refine Tr.mono (Run.tr (R.mv (v := vI z2.2.2) rfl)) ?_
      rintro _ _ ⟨hu, rfl⟩
      obtain rfl := hu.symm
      exact ⟨W207, rfl, Le.refl _ _, (show (vI z2.2.2 : Value) = vI z2.2.2 from rfl)⟩
     ·intro vs W lW hN
      obtain ⟨W214, hW214⟩ : ∃ X, X = W := ⟨W, rfl⟩
      subst hW214
      have a215 := a120.t lW rfl
      have e0_ : vs 0 = .agg [v0_0_4, v0_1_4].toArray := (hN 0 (anyb rfl))
      obtain ⟨vs, rfl⟩ := up_eq e0_
      obtain ⟨pv6, e6_⟩ : ∃ v, vs 6 = v := ⟨_, rfl⟩
      obtain ⟨vs, rfl⟩ := up_eq e6_
      have o221 : Ow W214 7 [] [pv6] q97 := (hN 6 (anyb rfl))
      have e7_ : vs 7 = vI z2.2.2 := (hN 7 (anyb rfl))
      obtain ⟨vs, rfl⟩ := up_eq e7_
      refine Tr.mono (T.call rfl (p31 (K := [0, 2, 3, 7]) (k0 := 9) (x0 := (Vm.Repo.mk z2.1.Commits z2.1.Heads)) ((Repo.rd (K := [2, 3]) z2.1.Commits z2.1.Heads ((o121.up lW rfl).rd.sub (M := [2, 3]) rfl) ((o122.up lW rfl).rd.sub (M := [2, 3]) rfl)).sub (M := [0, 2, 3, 7]) rfl) (o221.rd.sub (M := [0, 2, 3, 7]) rfl) ((h99.ul a215).sub (M := [0, 2, 3, 7]) rfl) e109)) ?_
      rintro v0_223 _ ⟨W223, rfl, l223, ⟨_, rfl, f223_0⟩⟩
      exact ⟨W223, rfl, l223, (show Ow W223 9 [] [v0_223] z108 from f223_0)⟩
     ·intro vs W lW hN
      obtain ⟨W231, hW231⟩ : ∃ X, X = W := ⟨W, rfl⟩
      subst hW231
      obtain ⟨pv8, e8_⟩ : ∃ v, vs 8 = v := ⟨_, rfl⟩
      obtain ⟨vs, rfl⟩ := up_eq e8_
      have o238 : Ow W231 9 [] [pv8] z108 := (hN 8 (anyb rfl))
      refine Tr.mono (Run.tr (R.as (v := pv8) rfl)) ?_
      rintro _ _ ⟨hu, rfl⟩
      obtain rfl := hu.symm
      exact ⟨W231, rfl, Le.refl _ _, (show (pv8 : Value) = pv8 from rfl)⟩
     ·intro vs W lW hN
      obtain ⟨W239, hW239⟩ : ∃ X, X = W := ⟨W, rfl⟩
      subst hW239
      have a240 := a120.t lW rfl
      obtain ⟨l239, hl239⟩ : ∃ x, x = lW := ⟨lW, rfl⟩
      have e0_ : vs 0 = .agg [v0_0_4, v0_1_4].toArray := (hN 0 (anyb rfl))
      obtain ⟨vs, rfl⟩ := up_eq e0_
      have e2_ : vs 2 = v1_4 := (hN 2 (anyb rfl))
      obtain ⟨vs, rfl⟩ := up_eq e2_
      have e4_ : vs 4 = vI z17 := (hN 4 (anyb rfl))
      obtain ⟨vs, rfl⟩ := up_eq e4_
      obtain ⟨pg5, e5_⟩ : ∃ pg5, vs 5 = .slice (some (bx pg5)) 1 1 := ⟨_, ((hN 5 (anyb rfl))).1⟩
      obtain ⟨vs, rfl⟩ := up_eq e5_
      have o246 : Bx W239 8 pg5 [vI z17] := (hN 5 (anyb rfl)).2
      obtain ⟨pv6, e6_⟩ : ∃ v, vs 6 = v := ⟨_, rfl⟩
      obtain ⟨vs, rfl⟩ := up_eq e6_
      have o247 : Ow W239 7 [] [pv6] q97 := (hN 6 (anyb rfl))
      have e7_ : vs 7 = vI z2.2.2 := (hN 7 (anyb rfl))
      obtain ⟨vs, rfl⟩ := up_eq e7_
      obtain ⟨pv8, e8_⟩ : ∃ v, vs 8 = v := ⟨_, rfl⟩
      obtain ⟨vs, rfl⟩ := up_eq e8_
      have o248 : Ow W239 9 [] [pv8] z108 := (hN 8 (anyb rfl))
      have e9_ : vs 9 = pv8 := (hN 9 (anyb rfl))
      obtain ⟨vs, rfl⟩ := up_eq e9_
      refine sr (la (b125.up lW rfl) (mv v1_4 rfl (mi rfl (cr hm (fun _ => p31 (K := [0, 2, 3, 4]) (k0 := 10) (x0 := (Vm.Repo.mk z2.1.Commits z2.1.Heads)) ((Repo.rd (K := [2, 3]) z2.1.Commits z2.1.Heads ((o121.up lW rfl).rd.sub (M := [2, 3]) rfl) ((o122.up lW rfl).rd.sub (M := [2, 3]) rfl)).sub (M := [0, 2, 3, 4]) rfl) ((o123.up lW rfl).rd.sub (M := [0, 2, 3, 4]) rfl) ((h99.ul a240).sub (M := [0, 2, 3, 4]) rfl)) ?_))))
      rintro z250 v0_252 W252 hm l252 ⟨_, rfl, f252_0⟩
      have a253 := a240.n l252
      have o257 := ((o41.up l119).up lW rfl).up l252
      refine Nv v0_252 rfl ?_
      obtain ⟨K264, hK264, hm⟩ := jn_e hm
      refine Cw.join 69 90 [2] (fun l w => ∃ y262 W263, CW.w W263 = w ∧ Le [] W252 W263 ∧ l = [vB y262] ∧ K264 y262 = some r) ?_ ?_
      ·rintro _ _ σ ⟨y262, W263, rfl, l263, rfl, hm⟩
       rw [hK264] at hm
       have a265 := a253.n l263
       exact .ret (rt hm a265)
      ·refine rg (mv v0_28 rfl (mi rfl (ca hm (fun _ => p26 (K := [6]) o257.rd) fun z275 W277 hm l277 => mb rfl (bs hm (fun hc288 hm => ?_) fun hc288 hm => ?_))))
       ·refine wak 3 hc288 (mi rfl (mi rfl (Lw.ne rfl (Pb hc288 rfl (mb rfl (bs hm (fun hc289 hm => ?_) fun hc289 hm => ?_))))))
        ·refine wak 5 hc289 (mv pv8 rfl (Lw.ln z108 ((o248.up l252).up l277).rd rfl (mv v0_28 rfl (Lw.ln z26 (o257.up l277).rd rfl (Lw.lt rfl (Pb hc289 rfl (mb rfl (bs hm (fun hc290 hm => ?_) fun hc290 hm => ?_))))))))
         ·exact wak 5 hc290 (mv v0_252 rfl (Lw.ln z250 (f252_0.up l277).rd rfl (mv v0_28 rfl (Lw.ln z26 (o257.up l277).rd rfl (Lw.lt rfl (Pb hc290 rfl (Nb rfl ((ag) ⟨decide (((z250.length : Int) : Int) < ((z26.length : Int) : Int)), W277, rfl, l277, rfl, hm⟩))))))))
         ·exact psk 5 hc290 rfl (Pb hc290 rfl (Nb rfl ((ag) ⟨false, W277, rfl, l277, rfl, hm⟩)))
        ·exact psk 5 hc289 rfl (Pb hc289 rfl (mb rfl (psk 5 rfl rfl (Pb rfl rfl (Nb rfl ((ag) ⟨false, W277, rfl, l277, rfl, hm⟩))))))
       ·exact psk 3 hc288 rfl (Pb hc288 rfl (mb rfl (psk 5 rfl rfl (Pb rfl rfl (mb rfl (psk 5 rfl rfl (Pb rfl rfl (Nb rfl ((ag) ⟨false, W277, rfl, l277, rfl, hm⟩)))))))))
  ·refine rg (mi rfl (la b33 (mv v1_4 rfl (mi rfl (ca hm (fun _ => p35 (K := [2, 3, 4]) (x0 := (Vm.Repo.mk z2.1.Commits z2.1.Heads)) ((Repo.rd (K := [2, 3]) z2.1.Commits z2.1.Heads (o30.rd.sub (M := [2, 3]) rfl) (o31.rd.sub (M := [2, 3]) rfl)).sub (M := [2, 3, 4]) rfl) (o32.rd.sub (M := [2, 3, 4]) rfl)) fun z291 W293 hm l293 => Lw.ne rfl (mb rfl (bs hm (fun hc300 hm => ?_) fun hc300 hm => ?_)))))))
   ·exact psk 3 hc300 rfl (Pb hc300 rfl (nl ((ag) ⟨true, W293, rfl, l293, rfl, hm⟩)))
   ·exact wak 3 hc300 (mv v0_28 rfl (Lw.ln z26 (f28_0.up l293).rd rfl (Lw.eq rfl (Pb hc300 rfl (nl ((ag) ⟨(((z26.length : Int) : Int) == (0 : Int)), W293, rfl, l293, rfl, hm⟩))))))

theorem p9 {x0 v0_ r} (h0 : Rd W K [v0_] x0) (h99 : Gl 0 W K) (hm : Vm.laws_FnLogNext x0 = some r) : Q1 9 [v0_] W [] fun W' v => v = vB r :=
 (c9 (h0.view _) (h99.view _) hm).ad (fk 0) fun _ _ e => e

end Go.Sx
