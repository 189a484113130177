/- Walks: each function answers as its model, printed by a program of ours. Conditions: the arguments read as they are given. -/
import Derived.Test.YtidkloialdageaaGreatDoorXTs
import Derived.Test.YtidkloialdageaaGreatDoorXM6
import Derived.Test.YtidkloialdageaaGreatDoorXW0
import Derived.Test.YtidkloialdageaaGreatDoorXW6
import Derived.Test.YtidkloialdageaaGreatDoorXW7
import Derived.Test.YtidkloialdageaaGreatDoorXW8
import Derived.Test.YtidkloialdageaaGreatDoorXW9
namespace Go.Sx
open Go Go.Proofs Go.Vm Rp
set_option linter.unusedVariables false
set_option linter.unusedSimpArgs false

variable {W W0 : CW} {K : List Nat}
theorem c70 {x0 v0_ r} (h0 : Rd W0 [0] [v0_] x0) (hm : Vm.spec_DrawRepoAt x0 = some r) : Q0 70 [v0_] W0 fun Wf v => ∃ u0_0 u0_1, v = .tuple [.agg [u0_0, u0_1].toArray, vS r.2].toArray ∧ OwS Wf [31] [] [u0_0] r.1.Commits ∧ OwS Wf [32] [] [u0_1] r.1.Heads := by
 unfold Vm.spec_DrawRepoAt at hm
 refine CallR.of Tryz.func70 rfl rfl rfl rfl (sr (al 2 [.slice none 0 0, .slice none 0 0] fun g1 W1 l1 b1 => ?_))
 have a2 := l1.o
 refine Ns rfl (sr (mv v0_ rfl (cr hm (fun _ => p81 (k0 := 3) (h0.ul a2)) ?_)))
 rintro z4 _ W6 hm l6 ⟨g0_6, v0_0_6, rfl, f6_0, f6_1⟩
 have s7 := f6_1.sub (M := [0]) rfl
 have a8 := a2.n l6
 refine Np rfl (sr (mp rfl (cr hm (fun _ => p82 (k0 := 4) (k1 := 5) (c0 := 3) (x0 := z4) f6_0 s7 rfl) ?_)))
 rintro z10 _ W12 hm l12 ⟨v0_0_12, v0_1_12, rfl, f12_0, f12_1, f12_2⟩
 have a13 := l12.s
 refine al 6 [.slice none 0 0, .slice none 0 0] fun g15 W15 l15 b15 => ?_
 have a16 := l15.o
 refine sta b15 (oc_cons (f12_0.up l15).oc (oc_cons (f12_1.up l15).oc oc_nil)) fun W21 l21 b21 => ?_
 have a22 := l21.s
 refine nl (Cw.seq (Cw.draw [3] [(0, 1), (1, 0), (2, 2), (3, 2), (4, 3), (5, 0)] mixed (by kernel_rfl) fun W27 l27 => ?_))
 have a28 := l27.o
 refine Mw.q rfl rfl (fun _ c => R.lda (cs := [v0_0_12, v0_1_12]) ((b21.up l27).clcs rfl c) rfl rfl) (Dp rfl (Mw.t rfl rfl (T.bsS (α := Str) (xs := [([109, 97, 105, 110] : Str), ([115, 105, 100, 101] : Str), ([110, 111, 110, 101] : Str)]) 7 [] (W := W27) [vS ([109, 97, 105, 110] : Str), vS ([115, 105, 100, 101] : Str), vS ([110, 111, 110, 101] : Str)] (Each.cons ((rdS _)) (Each.cons ((rdS _)) (Each.cons ((rdS _)) Each.nil))) rfl) ?_))
 rintro v34 _ ⟨W34, rfl, l34, o34⟩
 have a35 := l34.o
 refine m0 l34 fun d34 => ?_
 obtain ⟨z42, e43, hm⟩ := ob hm
 refine Mw.t rfl rfl (T.call rfl (p102 (K := [0, 7])  (c0 := 3) (x0 := (Vm.l30Rd.mk z4.b z10.2)) ((((f12_2.up l15).up l21).up l27).up l34) ((s7.ul ((((a13.trans a16).trans a22).trans a28).trans a35)).sub (M := [0, 7]) rfl) (o34.rd.sub (M := [0, 7]) rfl) rfl e43)) ?_
 rintro _ _ ⟨W44, rfl, l44, ⟨rfl, f44_0⟩⟩
 have a45 := (((((a8.trans a13).trans a16).trans a22).trans a28).trans a35).t l44
 have o46 := ((((f12_0.up l15).up l21).up l27).up l34).up l44
 have o47 := ((((f12_1.up l15).up l21).up l27).up l34).up l44
 refine mc d34 l44 fun d44 => Mw.lu rfl (T.sta (vs := [v0_0_12, v0_1_12]) (((((((b1.up l6).up l12).up l15).up l21).up l27).up l34).up l44) rfl rfl (oc_cons o46.oc (oc_cons o47.oc oc_nil)) rfl rfl) ?_
 rintro _ _ ⟨W51, rfl, l51, b51⟩
 have a52 := a45.t l51
 refine Hs rfl (Mw.nil ?_)
 obtain ⟨W58, ew58, l58, o58⟩ := (o46.up l51).dyeO 31
 have a59 := a52.t l58
 obtain ⟨W65, ew65, l65, o65⟩ := ((o47.up l51).up l58).dyeO 32
 have a66 := a59.t l65
 cases hm
 rw [← ew65.trans (ew58)]
 exact Cw.ret (retA2 rfl ((b51.up l58).up l65) rfl (Res.mk a66 ⟨v0_0_12, v0_1_12, rfl, (o58.up l65).s, o65.s⟩))

theorem p70 {x0 v0_ k0 k1 r} (h0 : Rd W K [v0_] x0) (hm : Vm.spec_DrawRepoAt x0 = some r) : Q1 70 [v0_] W [] fun W' v => ∃ u0_0 u0_1, v = .tuple [.agg [u0_0, u0_1].toArray, vS r.2].toArray ∧ Ow W' k0 [] [u0_0] r.1.Commits ∧ Ow W' k1 [] [u0_1] r.1.Heads :=
 CallR.adJ (J := []) (fun c => bif Nat.beq c 0 then 0 else bif Nat.beq c 31 then k0 else bif Nat.beq c 32 then k1 else 0) (c70 (h0.view _) hm) fun _ _ ⟨u0_0, u0_1, e, f0, f1⟩ => ⟨u0_0, u0_1, e, f0.one1.backN rfl, f1.one1.backN rfl⟩

theorem c15 {x0 v0_ r} (h0 : Rd W0 [0] [v0_] x0) (hm : Vm.spec_DrawRepoDrop x0 = some r) : Q0 15 [v0_] W0 fun Wf v => ∃ u0_0 u0_1, v = .tuple [.agg [u0_0, u0_1].toArray, vS r.2].toArray ∧ OwS Wf [31] [] [u0_0] r.1.Commits ∧ OwS Wf [32] [] [u0_1] r.1.Heads := by
 unfold Vm.spec_DrawRepoDrop at hm
 refine CallR.of Tryz.func15 rfl rfl rfl rfl (sr (al 2 [.slice none 0 0, .slice none 0 0] fun g1 W1 l1 b1 => ?_))
 have a2 := l1.o
 refine Ns rfl (sr (mv v0_ rfl (cr hm (fun _ => p70 (k0 := 3) (k1 := 4) (h0.ul a2)) ?_)))
 rintro z4 _ W6 hm l6 ⟨v0_0_6, v0_1_6, rfl, f6_0, f6_1⟩
 have a7 := a2.n l6
 refine Lw.r rfl (R.ext (vs := [.agg [v0_0_6, v0_1_6].toArray, vS z4.2]) (v := .agg [v0_0_6, v0_1_6].toArray) rfl rfl) (Lw.r rfl (R.ext (vs := [.agg [v0_0_6, v0_1_6].toArray, vS z4.2]) (v := vS z4.2) rfl rfl) (sta (b1.up l6) (oc_cons f6_0.oc (oc_cons f6_1.oc oc_nil)) fun W9 l9 b9 => ?_))
 have a10 := a7.t l9
 refine Ns rfl ?_
 obtain ⟨W13, ew13, l13, o13⟩ := (f6_0.up l9).dyeO 31
 have a14 := a10.t l13
 obtain ⟨W17, ew17, l17, o17⟩ := ((f6_1.up l9).up l13).dyeO 32
 have a18 := a14.t l17
 cases hm
 rw [← ew17.trans (ew13)]
 exact Cw.ret (retA2 rfl ((b9.up l13).up l17) rfl (Res.mk a18 ⟨v0_0_6, v0_1_6, rfl, (o13.up l17).s, o17.s⟩))

theorem p15 {x0 v0_ k0 k1 r} (h0 : Rd W K [v0_] x0) (hm : Vm.spec_DrawRepoDrop x0 = some r) : Q1 15 [v0_] W [] fun W' v => ∃ u0_0 u0_1, v = .tuple [.agg [u0_0, u0_1].toArray, vS r.2].toArray ∧ Ow W' k0 [] [u0_0] r.1.Commits ∧ Ow W' k1 [] [u0_1] r.1.Heads :=
 CallR.adJ (J := []) (fun c => bif Nat.beq c 0 then 0 else bif Nat.beq c 31 then k0 else bif Nat.beq c 32 then k1 else 0) (c15 (h0.view _) hm) fun _ _ ⟨u0_0, u0_1, e, f0, f1⟩ => ⟨u0_0, u0_1, e, f0.one1.backN rfl, f1.one1.backN rfl⟩

theorem c21 {x0 v0_0_ v0_1_ x1 v1_0_ v1_1_ r} (h0 : Rd W0 [0] [v0_0_, v0_1_] x0) (h1 : Rd W0 [0] [v1_0_, v1_1_] x1) (hm : Vm.laws_smKeeps x0 x1 = some r) : Q0 21 [.agg [v0_0_, v0_1_].toArray, .agg [v1_0_, v1_1_].toArray] W0 fun Wf v => v = vB r := by
 unfold Vm.laws_smKeeps at hm
 obtain ⟨w0_0, w0_1, he0, h0_0, h0_1⟩ := Repo.split h0
 simp only [List.cons.injEq, and_true, true_and] at he0
 obtain ⟨rfl, rfl⟩ := he0
 obtain ⟨w1_0, w1_1, he1, h1_0, h1_1⟩ := Repo.split h1
 simp only [List.cons.injEq, and_true, true_and] at he1
 obtain ⟨rfl, rfl⟩ := he1
 refine CallR.of Tryz.func21 rfl rfl rfl rfl (sr (bo 2 rfl fun g1 W1 l1 b1 => ?_))
 have a2 := l1.o
 refine bo 3 rfl fun g3 W3 l3 b3 => ?_
 have a4 := a2.n l3
 refine Nb rfl (ssr (fl (b1.up l3) rfl (Lw.ln x0.Commits (h0_0.ul a4) rfl (fl b3 rfl (Lw.ln x1.Commits (h1_0.ul a4) rfl (Lw.lt rfl (nl (cn hm (fun hm => ?_) fun hm => ?_))))))))
 ·exact sr (Nb rfl (.ret (rt hm a4)))
 ·refine sk (ssr (Ni rfl (Cw.block ?_)))
  obtain ⟨K12, hK12, hm⟩ := jn_e hm
  refine Cw.loop 13 31 [4, 5] (fun m l w => ∃ y9 y10 W11, CW.w W11 = w ∧ Le [] W3 W11 ∧ l = [vB y9, vI y10] ∧ Vm.laws_smKeeps_l1 x0 x1 K12 m y9 y10 = some r) _ ⟨false, 0, W3, rfl, Le.refl _ _, rfl, hm⟩ ?_
  rintro (_ | m13) _ _ σ ⟨y9, y10, W11, rfl, l11, rfl, hm⟩
  ·cases hm
  unfold Vm.laws_smKeeps_l1 at hm
  have a14 := a4.n l11
  refine ssr (mi rfl (fl (b3.up l11) rfl (Lw.ln x1.Commits (h1_0.ul a14) rfl (Lw.lt rfl (nl (cn hm (fun hm => ?_) fun hm => ?_))))))
  ·refine sk (Cw.seq (Cw.block (Cw.seq (Cw.draw [] [(0, 0), (1, 1), (2, 0), (3, 0), (4, 1), (5, 0), (6, 1), (7, 0), (8, 0), (9, 1), (10, 2), (11, 0)] mixed (by kernel_rfl) fun W19 l19 => ?_))))
   have a20 := a14.n l19
   refine Dfl (((b1.up l3).up l11).up l19) rfl rfl rfl (Di rfl ?_)
   obtain ⟨u23, e24, hm⟩ := ob hm
   have s25 := h0_0.ul a20
   refine Mw.p rfl rfl (fun _ => R.ix (α := Commit) s25 e24 rfl rfl rfl) ?_
   obtain ⟨x26, c27, _, r28⟩ := (s25.at_ e24).cells
   obtain ⟨v29, v31, rfl, r30, r32⟩ := Commit.split r28
   refine Mw.q rfl rfl (fun _ c => R.lda (cl_cells (s25.at_ e24).1 rfl c27 c) rfl rfl) (Dfl ((b3.up l11).up l19) rfl rfl rfl (Di rfl ?_))
   obtain ⟨u33, e34, hm⟩ := ob hm
   have s35 := h1_0.ul a20
   refine Mw.p rfl rfl (fun _ => R.ix (α := Commit) s35 e34 rfl rfl rfl) ?_
   obtain ⟨x36, c37, _, r38⟩ := (s35.at_ e34).cells
   obtain ⟨v39, v41, rfl, r40, r42⟩ := Commit.split r38
   refine Mw.q rfl rfl (fun _ c => R.lda (cl_cells (s35.at_ e34).1 rfl c37 c) rfl rfl) ?_
   obtain ⟨z43, e44, hm⟩ := ob hm
   refine Mw.t rfl rfl (T.call rfl (p49  (Commit.rd (K := [0]) u23.Parents u23.Who u23.Tree r30 r32) (Commit.rd (K := [0]) u33.Parents u33.Who u33.Tree r40 r42) e44)) ?_
   rintro _ _ ⟨W45, rfl, l45, rfl⟩
   have a46 := a20.n l45
   refine m0 l45 fun d45 => Mw.p rfl rfl (fun _ => R.not rfl) (Mw.nil (cn hm (fun hm => ?_) fun hm => ?_))
   ·exact sr (Nb rfl (.ret (rt hm a46)))
   ·exact sk (rg (mi rfl (Lw.add rfl (Ni rfl ((agm) ⟨y9, w64 (y10 + 1), W45, rfl, ((l11.j l19).j l45).w, rfl, hm⟩)))))
  ·refine Cw.exit ?_
   rw [hK12] at hm
   exact sr (Nb rfl (.ret (rt hm a14)))

theorem p21 {x0 v0_0_ v0_1_ x1 v1_0_ v1_1_ r} (h0 : Rd W K [v0_0_, v0_1_] x0) (h1 : Rd W K [v1_0_, v1_1_] x1) (hm : Vm.laws_smKeeps x0 x1 = some r) : Q1 21 [.agg [v0_0_, v0_1_].toArray, .agg [v1_0_, v1_1_].toArray] W [] fun W' v => v = vB r :=
 (c21 (h0.view _) (h1.view _) hm).ad (fk 0) fun _ _ e => e

theorem c3 {x0 v0_ r} (h0 : Rd W0 [0] [v0_] x0) (h99 : Gl 0 W0 [0]) (hm : Vm.laws_FnRepoDrop x0 = some r) : Q0 3 [v0_] W0 fun Wf v => v = vB r := by
 unfold Vm.laws_FnRepoDrop at hm
 refine CallR.of Tryz.func3 rfl rfl rfl rfl (sr (Nb rfl (ssr (mv v0_ rfl (Lw.ln x0 h0 rfl (Lw.gt rfl (nl (cn hm (fun hm => ?_) fun hm => ?_))))))))
 ·exact sr (Nb rfl (.ret (rt hm (Le.refl _ _))))
 ·refine sk (sr (mv v0_ rfl (cr hm (fun _ => p15 (k0 := 2) (k1 := 3) h0) ?_)))
  rintro z2 _ W4 hm l4 ⟨v0_0_4, v0_1_4, rfl, f4_0, f4_1⟩
  have a5 := l4.o
  refine mv (.tuple [.agg [v0_0_4, v0_1_4].toArray, vS z2.2].toArray) rfl (Lw.r rfl (R.ext (vs := [.agg [v0_0_4, v0_1_4].toArray, vS z2.2]) (v := .agg [v0_0_4, v0_1_4].toArray) rfl rfl) (Lw.r rfl (R.ext (vs := [.agg [v0_0_4, v0_1_4].toArray, vS z2.2]) (v := vS z2.2) rfl rfl) (al 4 [.slice none 0 0, .slice none 0 0] fun g6 W6 l6 b6 => ?_)))
  have a7 := a5.n l6
  refine sta b6 (oc_cons (f4_0.up l6).oc (oc_cons (f4_1.up l6).oc oc_nil)) fun W10 l10 b10 => ?_
  have a11 := a7.t l10
  have o12 := (f4_0.up l6).up l10
  have o13 := (f4_1.up l6).up l10
  refine Ns rfl (sr (la b10 (ms rfl (cr hm (fun _ => p16 (K := [0, 2, 3]) (k0 := 5) (k1 := 6) (x0 := (Vm.Repo.mk z2.1.Commits z2.1.Heads)) ((Repo.rd (K := [2, 3]) z2.1.Commits z2.1.Heads (o12.rd.sub (M := [2, 3]) rfl) (o13.rd.sub (M := [2, 3]) rfl)).sub (M := [0, 2, 3]) rfl) ((h99.ul a11).sub (M := [0, 2, 3]) rfl)) ?_))))
  rintro z15 _ W17 hm l17 ⟨v0_0_17, v0_1_17, rfl, f17_0, f17_1⟩
  have a18 := a11.n l17
  refine mv (.tuple [.agg [v0_0_17, v0_1_17].toArray, vB z15.2].toArray) rfl (Lw.r rfl (R.ext (vs := [.agg [v0_0_17, v0_1_17].toArray, vB z15.2]) (v := .agg [v0_0_17, v0_1_17].toArray) rfl rfl) (Lw.r rfl (R.ext (vs := [.agg [v0_0_17, v0_1_17].toArray, vB z15.2]) (v := vB z15.2) rfl rfl) (al 7 [.slice none 0 0, .slice none 0 0] fun g22 W22 l22 b22 => ?_)))
  have a23 := a18.n l22
  refine sta b22 (oc_cons (f17_0.up l22).oc (oc_cons (f17_1.up l22).oc oc_nil)) fun W29 l29 b29 => ?_
  have a30 := a23.t l29
  have o31 := ((o12.up l17).up l22).up l29
  have o32 := ((o13.up l17).up l22).up l29
  have b35 := ((b10.up l17).up l22).up l29
  refine Nb rfl (sr (la b35 (ms rfl (cr hm (fun _ => p17 (K := [2, 3]) (k0 := 8) (k1 := 9) (x0 := (Vm.Repo.mk z2.1.Commits z2.1.Heads)) (Repo.rd (K := [2, 3]) z2.1.Commits z2.1.Heads (o31.rd.sub (M := [2, 3]) rfl) (o32.rd.sub (M := [2, 3]) rfl))) ?_))))
  rintro z36 _ W38 hm l38 ⟨v0_0_38, v0_1_38, rfl, f38_0, f38_1⟩
  have a39 := a30.n l38
  refine mv (.tuple [.agg [v0_0_38, v0_1_38].toArray, vB z36.2].toArray) rfl (Lw.r rfl (R.ext (vs := [.agg [v0_0_38, v0_1_38].toArray, vB z36.2]) (v := .agg [v0_0_38, v0_1_38].toArray) rfl rfl) (Lw.r rfl (R.ext (vs := [.agg [v0_0_38, v0_1_38].toArray, vB z36.2]) (v := vB z36.2) rfl rfl) (al 10 [.slice none 0 0, .slice none 0 0] fun g46 W46 l46 b46 => ?_)))
  have a47 := a39.n l46
  refine sta b46 (oc_cons (f38_0.up l46).oc (oc_cons (f38_1.up l46).oc oc_nil)) fun W56 l56 b56 => ?_
  have a57 := a47.t l56
  have o58 := ((o31.up l38).up l46).up l56
  have o59 := ((o32.up l38).up l46).up l56
  have o60 := ((((f17_0.up l22).up l29).up l38).up l46).up l56
  have o61 := ((((f17_1.up l22).up l29).up l38).up l46).up l56
  have o62 := (f38_0.up l46).up l56
  have o63 := (f38_1.up l46).up l56
  have b64 := ((b35.up l38).up l46).up l56
  have b65 := ((b29.up l38).up l46).up l56
  refine Nb rfl (Cw.seq ?_)
  obtain ⟨K68, hK68, hm⟩ := jn_e hm
  refine Cw.join 29 42 [42] (fun l w => ∃ y66 W67, CW.w W67 = w ∧ Le [] W56 W67 ∧ l = [vB y66] ∧ K68 y66 = some r) ?_ ?_
  ·rintro _ _ σ ⟨y66, W67, rfl, l67, rfl, hm⟩
   rw [hK68] at hm
   have a69 := a57.n l67
   have o72 := o60.up l67
   have o73 := o61.up l67
   have b77 := b65.up l67
   refine cn hm (fun hm => ?_) fun hm => ?_
   ·obtain ⟨K82, hK82, hm⟩ := jn_e hm
    refine Cw.join 43 50 [2] (fun l w => ∃ y80 W81, CW.w W81 = w ∧ Le [] W67 W81 ∧ l = [vB y80] ∧ K82 y80 = some r) ?_ ?_
    ·rintro _ _ σ ⟨y80, W81, rfl, l81, rfl, hm⟩
     rw [hK82] at hm
     have a83 := a69.n l81
     exact .ret (rt hm a83)
    ·refine rg (mb rfl (mb rfl (Lw.r rfl (R.beq rfl rfl) (mb rfl (bs hm (fun hc93 hm => ?_) fun hc93 hm => ?_)))))
     ·exact wak 3 hc93 (la b77 (la (b56.up l67) (ca hm (fun _ => p18 (K := [5, 6, 8, 9]) (x0 := (Vm.Repo.mk z15.1.Commits z15.1.Heads)) (x1 := (Vm.Repo.mk z36.1.Commits z36.1.Heads)) ((Repo.rd (K := [5, 6]) z15.1.Commits z15.1.Heads (o72.rd.sub (M := [5, 6]) rfl) (o73.rd.sub (M := [5, 6]) rfl)).sub (M := [5, 6, 8, 9]) rfl) ((Repo.rd (K := [8, 9]) z36.1.Commits z36.1.Heads ((o62.up l67).rd.sub (M := [8, 9]) rfl) ((o63.up l67).rd.sub (M := [8, 9]) rfl)).sub (M := [5, 6, 8, 9]) rfl)) fun z94 W96 hm l96 => Pb hc93 rfl (Nb rfl ((ag) ⟨z94, W96, rfl, l96, rfl, hm⟩)))))
     ·exact psk 3 hc93 rfl (Pb hc93 rfl (Nb rfl ((ag) ⟨false, W67, rfl, Le.refl _ _, rfl, hm⟩)))
   ·refine sk ?_
    obtain ⟨K109, hK109, hm⟩ := jn_e hm
    refine Cw.join 51 80 [2] (fun l w => ∃ y107 W108, CW.w W108 = w ∧ Le [] W67 W108 ∧ l = [vB y107] ∧ K109 y107 = some r) ?_ ?_
    ·rintro _ _ σ ⟨y107, W108, rfl, l108, rfl, hm⟩
     rw [hK109] at hm
     have a110 := a69.n l108
     exact .ret (rt hm a110)
    ·refine rg (la b77 (ca hm (fun _ => p19 (K := [0, 5, 6]) (x0 := (Vm.Repo.mk z15.1.Commits z15.1.Heads)) ((Repo.rd (K := [5, 6]) z15.1.Commits z15.1.Heads (o72.rd.sub (M := [5, 6]) rfl) (o73.rd.sub (M := [5, 6]) rfl)).sub (M := [0, 5, 6]) rfl) ((h99.ul a69).sub (M := [0, 5, 6]) rfl)) fun z121 W123 hm l123 => ?_))
     have a124 := a69.n l123
     refine mb rfl (bs hm (fun hc134 hm => ?_) fun hc134 hm => ?_)
     ·refine wak 4 hc134 (la (b77.up l123) (ms rfl (ca hm (fun _ => p20 (K := [0, 5, 6]) (x0 := (Vm.Repo.mk z15.1.Commits z15.1.Heads)) ((Repo.rd (K := [5, 6]) z15.1.Commits z15.1.Heads ((o72.up l123).rd.sub (M := [5, 6]) rfl) ((o73.up l123).rd.sub (M := [5, 6]) rfl)).sub (M := [0, 5, 6]) rfl) ((h99.ul a124).sub (M := [0, 5, 6]) rfl)) fun z136 W138 hm l138 => ?_)))
      have a139 := a124.n l138
      have o140 := ((o58.up l67).up l123).up l138
      have o141 := ((o59.up l67).up l123).up l138
      have b146 := ((b64.up l67).up l123).up l138
      refine Lw.eq rfl (Pb hc134 rfl (mb rfl (bs hm (fun hc149 hm => ?_) fun hc149 hm => ?_)))
      ·refine wak 6 hc149 (mb rfl (la b146 (ms rfl (ca hm (fun _ => p20 (K := [0, 2, 3]) (x0 := (Vm.Repo.mk z2.1.Commits z2.1.Heads)) ((Repo.rd (K := [2, 3]) z2.1.Commits z2.1.Heads (o140.rd.sub (M := [2, 3]) rfl) (o141.rd.sub (M := [2, 3]) rfl)).sub (M := [0, 2, 3]) rfl) ((h99.ul a139).sub (M := [0, 2, 3]) rfl)) fun z151 W153 hm l153 => ?_))))
       have o157 := ((o72.up l123).up l138).up l153
       have b162 := ((b77.up l123).up l138).up l153
       refine Lw.ge rfl (Lw.r rfl (R.beq rfl rfl) (Pb hc149 rfl (mb rfl (bs hm (fun hc164 hm => ?_) fun hc164 hm => ?_))))
       ·refine wak 3 hc164 (la b162 (la (b146.up l153) (ca hm (fun _ => p21 (K := [2, 3, 5, 6]) (x0 := (Vm.Repo.mk z15.1.Commits z15.1.Heads)) (x1 := (Vm.Repo.mk z2.1.Commits z2.1.Heads)) ((Repo.rd (K := [5, 6]) z15.1.Commits z15.1.Heads (o157.rd.sub (M := [5, 6]) rfl) ((((o73.up l123).up l138).up l153).rd.sub (M := [5, 6]) rfl)).sub (M := [2, 3, 5, 6]) rfl) ((Repo.rd (K := [2, 3]) z2.1.Commits z2.1.Heads ((o140.up l153).rd.sub (M := [2, 3]) rfl) ((o141.up l153).rd.sub (M := [2, 3]) rfl)).sub (M := [2, 3, 5, 6]) rfl)) fun z165 W167 hm l167 => Pb hc164 rfl (mb rfl (bs hm (fun hc178 hm => ?_) fun hc178 hm => ?_)))))
        ·exact wak 7 hc178 (fl (b162.up l167) rfl (Lw.ln z15.1.Commits (o157.up l167).rd rfl (fl ((b146.up l153).up l167) rfl (Lw.ln z2.1.Commits ((o140.up l153).up l167).rd rfl (Lw.eq rfl (Pb hc178 rfl (Nb rfl ((ag) ⟨(((z15.1.Commits.length : Int) : Int) == ((z2.1.Commits.length : Int) : Int)), W167, rfl, (((l123.j l138).j l153).j l167).w, rfl, hm⟩))))))))
        ·exact psk 7 hc178 rfl (Pb hc178 rfl (Nb rfl ((ag) ⟨false, W167, rfl, (((l123.j l138).j l153).j l167).w, rfl, hm⟩)))
       ·exact psk 3 hc164 rfl (Pb hc164 rfl (mb rfl (psk 7 rfl rfl (Pb rfl rfl (Nb rfl ((ag) ⟨false, W153, rfl, ((l123.j l138).j l153).w, rfl, hm⟩))))))
      ·exact psk 6 hc149 rfl (Pb hc149 rfl (mb rfl (psk 3 rfl rfl (Pb rfl rfl (mb rfl (psk 7 rfl rfl (Pb rfl rfl (Nb rfl ((ag) ⟨false, W138, rfl, (l123.j l138).w, rfl, hm⟩)))))))))
     ·exact psk 4 hc134 rfl (Pb hc134 rfl (mb rfl (psk 6 rfl rfl (Pb rfl rfl (mb rfl (psk 3 rfl rfl (Pb rfl rfl (mb rfl (psk 7 rfl rfl (Pb rfl rfl (Nb rfl ((ag) ⟨false, W123, rfl, l123, rfl, hm⟩))))))))))))
  ·refine rg (mb rfl (mb rfl (Lw.r rfl (R.bne rfl rfl) (mb rfl (bs hm (fun hc179 hm => ?_) fun hc179 hm => ?_)))))
   ·exact psk 4 hc179 rfl (Pb hc179 rfl (mb rfl (psk 3 rfl rfl (Pb rfl rfl (nl ((ag) ⟨true, W56, rfl, Le.refl _ _, rfl, hm⟩))))))
   ·refine wak 4 hc179 (la b65 (la b56 (ca hm (fun _ => p18 (K := [5, 6, 8, 9]) (x0 := (Vm.Repo.mk z15.1.Commits z15.1.Heads)) (x1 := (Vm.Repo.mk z36.1.Commits z36.1.Heads)) ((Repo.rd (K := [5, 6]) z15.1.Commits z15.1.Heads (o60.rd.sub (M := [5, 6]) rfl) (o61.rd.sub (M := [5, 6]) rfl)).sub (M := [5, 6, 8, 9]) rfl) ((Repo.rd (K := [8, 9]) z36.1.Commits z36.1.Heads (o62.rd.sub (M := [8, 9]) rfl) (o63.rd.sub (M := [8, 9]) rfl)).sub (M := [5, 6, 8, 9]) rfl)) fun z180 W182 hm l182 => ?_)))
    have a183 := a57.n l182
    refine Lw.r rfl (R.not rfl) (Pb hc179 rfl (mb rfl (bs hm (fun hc193 hm => ?_) fun hc193 hm => ?_)))
    ·exact psk 3 hc193 rfl (Pb hc193 rfl (nl ((ag) ⟨true, W182, rfl, l182, rfl, hm⟩)))
    ·exact wak 3 hc193 (la (b64.up l182) (ca hm (fun _ => p19 (K := [0, 2, 3]) (x0 := (Vm.Repo.mk z2.1.Commits z2.1.Heads)) ((Repo.rd (K := [2, 3]) z2.1.Commits z2.1.Heads ((o58.up l182).rd.sub (M := [2, 3]) rfl) ((o59.up l182).rd.sub (M := [2, 3]) rfl)).sub (M := [0, 2, 3]) rfl) ((h99.ul a183).sub (M := [0, 2, 3]) rfl)) fun z195 W197 hm l197 => Lw.r rfl (R.not rfl) (Pb hc193 rfl (nl ((ag) ⟨(!z195), W197, rfl, (l182.j l197).w, rfl, hm⟩)))))

theorem p3 {x0 v0_ r} (h0 : Rd W K [v0_] x0) (h99 : Gl 0 W K) (hm : Vm.laws_FnRepoDrop x0 = some r) : Q1 3 [v0_] W [] fun W' v => v = vB r :=
 (c3 (h0.view _) (h99.view _) hm).ad (fk 0) fun _ _ e => e

end Go.Sx
