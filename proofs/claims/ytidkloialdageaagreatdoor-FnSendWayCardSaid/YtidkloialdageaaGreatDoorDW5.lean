/- Walks: each function answers as its model, printed by a program of ours. Conditions: the arguments read as they are given. -/
import Derived.Test.YtidkloialdageaaGreatDoorDTs
import Derived.Test.YtidkloialdageaaGreatDoorDM0
import Derived.Test.YtidkloialdageaaGreatDoorDW0
import Derived.Test.YtidkloialdageaaGreatDoorDW1
import Derived.Test.YtidkloialdageaaGreatDoorDW2
import Derived.Test.YtidkloialdageaaGreatDoorDW3
import Derived.Test.YtidkloialdageaaGreatDoorDW4
namespace Go.Sx
open Go Go.Proofs Go.Vm Rp
set_option linter.unusedVariables false
set_option linter.unusedSimpArgs false
variable {W W0 : CW} {K : List Nat}
theorem c200 {x0 v0_0_ v0_1_ x1 x2 x3 v3_ x4 v4_ r} (h0 : Rd W0 [0] [v0_0_, v0_1_] x0) (h3 : Rd W0 [0] [v3_] x3) (h4 : Rd W0 [0] [v4_] x4) (hm : Vm.spec_l10Put x0 x1 x2 x3 x4 = some r) : Q0 200 [.agg [v0_0_, v0_1_].toArray, vS x1, vS x2, v3_, v4_] W0 fun Wf v => ∃ u0_0 u0_1, v = .tuple [.agg [u0_0, u0_1].toArray, vI r.2].toArray ∧ Rd Wf [0] [u0_0] r.1.Commits ∧ Rd Wf [0] [u0_1] r.1.Heads := by
 unfold Vm.spec_l10Put at hm
 obtain ⟨w0_0, w0_1, he0, h0_0, h0_1⟩ := Repo.split h0
 simp only [List.cons.injEq, and_true, true_and] at he0
 obtain ⟨rfl, rfl⟩ := he0
 refine CallR.of Tryz.func200 rfl rfl rfl rfl (sr (bo 2 rfl fun g1 W1 l1 b1 => ?_))
 have a2 := l1.o
 refine al 3 [.slice none 0 0, .slice none 0 0] fun g3 W3 l3 b3 => ?_
 have a4 := a2.n l3
 refine Ni rfl (sr (la (b1.up l3) (ms rfl (ca hm (fun _ => p130 (Repo.rd (K := [0]) x0.Commits x0.Heads (h0_0.ul a4) (h0_1.ul a4))) fun z8 W10 hm l10 => ?_))))
 have a11 := a4.n l10
 have b12 := (b1.up l3).up l10
 refine Ni rfl (sr (mv v3_ rfl (fl b12 rfl (mi rfl ?_))))
 obtain ⟨u14, e15, hm⟩ := ob hm
 refine Lw.r rfl (R.ix (α := Commit) (h0_0.ul a11) e15 rfl rfl rfl) (Lw.fa rfl ?_)
 obtain ⟨v17, c18, r19⟩ := (Commit.at2 ((h0_0.ul a11).at_ e15)).cell rfl
 refine Lw.r rfl (R.ld rfl rfl c18) (mv v4_ rfl (cr hm (fun _ => p207 (k0 := 4) (k1 := 5) (h3.ul a11) r19 (h4.ul a11)) ?_))
 rintro z22 _ W24 hm l24 ⟨v0_24, v1_24, rfl, f24_0, f24_1⟩
 have a25 := a11.n l24
 have b26 := b12.up l24
 have b27 := (b3.up l10).up l24
 refine mv (.tuple [v0_24, v1_24].toArray) rfl (Lw.r rfl (R.ext (vs := [v0_24, v1_24]) (v := v0_24) rfl rfl) (Lw.r rfl (R.ext (vs := [v0_24, v1_24]) (v := v1_24) rfl rfl) (Gv v0_24 rfl (Nv v1_24 rfl (ssr (mv v1_24 rfl (Lw.ln z22.2 f24_1.rd rfl (Lw.gt rfl (nl (cn hm (fun hm => ?_) fun hm => ?_))))))))))
 ·refine sr (la b26 (sta b27 (oc_cons h0_0.oc (oc_cons h0_1.oc oc_nil)) fun W29 l29 b29 => ?_))
  have a30 := a25.t l29
  refine Ni rfl ?_
  cases hm
  exact Cw.ret (retA2 rfl b29 rfl (Res.mk a30 ⟨v0_0_, v0_1_, rfl, (h0_0.ul a30), (h0_1.ul a30)⟩))
 ·refine sk (sr (la b26 (ms rfl (mi rfl (Lw.t rfl (T.bsS (α := Int) (xs := [z8]) 6 [] (W := W24) [vI z8] (Each.cons ((rdI _)) Each.nil) rfl) ?_)))))
  rintro v36 _ ⟨W36, rfl, l36, o36⟩
  have a37 := a25.n l36
  have o38 := f24_0.up l36
  refine ms rfl (mv v0_24 rfl (Lw.r rfl (R.bd (zs := [.slice none 0 0, vS ([] : Str), .slice none 0 0]) (cs := [v36, vS x2, v0_24]) [(0, v36), (1, vS x2), (2, v0_24)] rfl rfl rfl (bp_cons o36.oc rfl (bp_cons rfl rfl (bp_cons o38.oc rfl bp_nil)))) (cr hm (fun _ => p134 (K := [0, 4, 6]) (x2 := (Vm.Commit.mk ([z8] : List Int) x2 z22.1)) ((Repo.rd (K := [0]) x0.Commits x0.Heads (h0_0.ul a37) (h0_1.ul a37)).sub (M := [0, 4, 6]) rfl) ((Commit.rd (K := [4, 6]) ([z8] : List Int) x2 z22.1 (o36.rd.sub (M := [4, 6]) rfl) (o38.rd.sub (M := [4, 6]) rfl)).sub (M := [0, 4, 6]) rfl)) ?_)))
  rintro z44 _ W46 hm l46 ⟨v0_0_46, v0_1_46, rfl, f46_0, f46_1⟩
  have s47 := f46_0.sub (M := [0, 4, 6]) rfl
  have s48 := f46_1.sub (M := [0, 4, 6]) rfl
  have a49 := a37.n l46
  refine al 7 [.slice none 0 0, .slice none 0 0] fun g55 W55 l55 b55 => ?_
  have a56 := a49.n l55
  refine sta b55 (oc_cons s47.oc (oc_cons s48.oc oc_nil)) fun W62 l62 b62 => ?_
  have a63 := a56.t l62
  refine nl (ssr (la b62 ?_))
  have s69 := s47.up ((l55.sub (M := [7]) rfl).trans (l62.sub (M := [7]) rfl)) rfl
  have s70 := s48.up ((l55.sub (M := [7]) rfl).trans (l62.sub (M := [7]) rfl)) rfl
  refine ca hm (fun _ => p74 (K := [0, 4, 6]) (Repo.rd (K := [0, 4, 6]) z44.Commits z44.Heads s69 s70)) fun z71 W73 hm l73 => ?_
  have a74 := a63.n l73
  have b79 := ((((b27.up l36).up l46).up l55).up l62).up l73
  refine Lw.r rfl (R.not rfl) (nl (cn hm (fun hm => ?_) fun hm => ?_))
  ·refine sr (la (((((b26.up l36).up l46).up l55).up l62).up l73) (sta b79 (oc_cons h0_0.oc (oc_cons h0_1.oc oc_nil)) fun W82 l82 b82 => ?_))
   have a83 := a74.t l82
   refine Ni rfl ?_
   cases hm
   exact Cw.ret (retA2 rfl b82 rfl (Res.mk a83 ⟨v0_0_, v0_1_, rfl, (h0_0.ul a83), (h0_1.ul a83)⟩))
  ·refine sk (sr (la (b62.up l73) (sta b79 (oc_cons s47.oc (oc_cons s48.oc oc_nil)) fun W91 l91 b91 => ?_)))
   have a92 := a74.t l91
   refine Ni rfl ?_
   have s98 := s47.up ((l55.sub (M := [3, 7]) rfl).trans ((l62.sub (M := [3, 7]) rfl).trans ((l73.sub (M := [3, 7]) rfl).trans (l91.sub (M := [3, 7]) rfl)))) rfl
   have s99 := s48.up ((l55.sub (M := [3, 7]) rfl).trans ((l62.sub (M := [3, 7]) rfl).trans ((l73.sub (M := [3, 7]) rfl).trans (l91.sub (M := [3, 7]) rfl)))) rfl
   obtain ⟨W100, ew100, l100, dj100⟩ := dyeE _ 4
   have s101 : Rd W100 [0, 6] [v0_0_46] z44.Commits := by rw [dj100]; exact (s98.dye 4).sub (M := [0, 6]) rfl
   have s102 : Rd W100 [0, 6] [v0_1_46] z44.Heads := by rw [dj100]; exact (s99.dye 4).sub (M := [0, 6]) rfl
   have s103 : Rd (α := List Vm.File) W100 [0] [v0_24] z22.1 := by rw [dj100]; exact ((((((o38.up l46).up l55).up l62).up l73).up l91).rd.dye 4).sub (M := [0]) rfl
   have a104 := a92.t l100
   obtain ⟨W110, ew110, l110, dj110⟩ := dyeE _ 6
   have s111 : Rd W110 [0] [v0_0_46] z44.Commits := by rw [dj110]; exact (s101.dye 6).sub (M := [0]) rfl
   have s112 : Rd W110 [0] [v0_1_46] z44.Heads := by rw [dj110]; exact (s102.dye 6).sub (M := [0]) rfl
   have s113 : Rd (α := List Int) W110 [0] [v36] ([z8] : List Int) := by rw [dj110]; exact (((((((o36.up l46).up l55).up l62).up l73).up l91).up l100).rd.dye 6).sub (M := [0]) rfl
   have a114 := a104.t l110
   cases hm
   rw [← ew110.trans (ew100)]
   exact Cw.ret (retA2 rfl ((b91.up l100).up l110) rfl (Res.mk a114 ⟨v0_0_46, v0_1_46, rfl, s111, s112⟩))
theorem p200 {x0 v0_0_ v0_1_ x1 x2 x3 v3_ x4 v4_ r} (h0 : Rd W K [v0_0_, v0_1_] x0) (h3 : Rd W K [v3_] x3) (h4 : Rd W K [v4_] x4) (hm : Vm.spec_l10Put x0 x1 x2 x3 x4 = some r) : Q1 200 [.agg [v0_0_, v0_1_].toArray, vS x1, vS x2, v3_, v4_] W [] fun W' v => ∃ u0_0 u0_1, v = .tuple [.agg [u0_0, u0_1].toArray, vI r.2].toArray ∧ Rd W' (0 :: K) [u0_0] r.1.Commits ∧ Rd W' (0 :: K) [u0_1] r.1.Heads :=
 (c200 (h0.view _) (h3.view _) (h4.view _) hm).ad (fk 0) fun _ _ ⟨u0_0, u0_1, e, f0, f1⟩ => ⟨u0_0, u0_1, e, f0.back rfl, f1.back rfl⟩
theorem c192 {x0 v0_0_ v0_1_ x1 x2 x3 r} (h0 : Rd W0 [0] [v0_0_, v0_1_] x0) (hm : Vm.spec_PickOf x0 x1 x2 x3 = some r) : Q0 192 [.agg [v0_0_, v0_1_].toArray, vS x1, vS x2, vI x3] W0 fun Wf v => ∃ u0_0 u0_1, v = .tuple [.agg [u0_0, u0_1].toArray, vI r.2].toArray ∧ Rd Wf [0] [u0_0] r.1.Commits ∧ Rd Wf [0] [u0_1] r.1.Heads := by
 unfold Vm.spec_PickOf at hm
 obtain ⟨w0_0, w0_1, he0, h0_0, h0_1⟩ := Repo.split h0
 simp only [List.cons.injEq, and_true, true_and] at he0
 obtain ⟨rfl, rfl⟩ := he0
 refine CallR.of Tryz.func192 rfl rfl rfl rfl (sr (bo 2 rfl fun g1 W1 l1 b1 => ?_))
 have a2 := l1.o
 refine al 3 [.slice none 0 0, .slice none 0 0] fun g3 W3 l3 b3 => ?_
 have a4 := a2.n l3
 refine Ni rfl (ssr (la (b1.up l3) (ca hm (fun _ => p74 (Repo.rd (K := [0]) x0.Commits x0.Heads (h0_0.ul a4) (h0_1.ul a4))) fun z8 W10 hm l10 => ?_)))
 have a11 := a4.n l10
 have b12 := (b1.up l3).up l10
 refine Lw.r rfl (R.not rfl) (nl (cn hm (fun hm => ?_) fun hm => ?_))
 ·refine sr (Lw.r rfl (R.bd (zs := [.slice none 0 0, .slice none 0 0]) (cs := [.slice none 0 0, .slice none 0 0]) [] rfl rfl rfl bp_nil) (sta (b3.up l10) (oc_cons rfl (oc_cons rfl oc_nil)) fun W15 l15 b15 => ?_))
  have a16 := a11.t l15
  refine Ni rfl ?_
  cases hm
  exact Cw.ret (retA2 rfl b15 rfl (Res.mk a16 ⟨.slice none 0 0, .slice none 0 0, rfl, (rdN (K := [0])), (rdN (K := [0]))⟩))
 ·refine sk (Cw.seq ?_)
  obtain ⟨K20, hK20, hm⟩ := jn_e hm
  refine Cw.join 15 32 [32] (fun l w => ∃ y18 W19, CW.w W19 = w ∧ Le [] W10 W19 ∧ l = [vB y18] ∧ K20 y18 = some r) ?_ ?_
  ·rintro _ _ σ ⟨y18, W19, rfl, l19, rfl, hm⟩
   rw [hK20] at hm
   have a21 := a11.n l19
   have b23 := (b3.up l10).up l19
   refine cn hm (fun hm => ?_) fun hm => ?_
   ·refine sr (la (b12.up l19) (cr hm (fun _ => p75 (k0 := 4) (k1 := 5) (Repo.rd (K := [0]) x0.Commits x0.Heads (h0_0.ul a21) (h0_1.ul a21))) ?_))
    rintro z27 _ W29 hm l29 ⟨v0_0_29, v0_1_29, rfl, f29_0, f29_1⟩
    have a30 := a21.n l29
    refine sta (b23.up l29) (oc_cons f29_0.oc (oc_cons f29_1.oc oc_nil)) fun W33 l33 b33 => ?_
    have a34 := a30.t l33
    refine Ni rfl ?_
    obtain ⟨W38, ew38, l38, dj38⟩ := dyeE _ 4
    have s39 : Rd (α := List Vm.Commit) W38 [0] [v0_0_29] z27.Commits := by rw [dj38]; exact ((f29_0.up l33).rd.dye 4).sub (M := [0]) rfl
    have a40 := a34.t l38
    obtain ⟨W44, ew44, l44, dj44⟩ := dyeE _ 5
    have s45 : Rd (α := List Vm.Head) W44 [0] [v0_1_29] z27.Heads := by rw [dj44]; exact (((f29_1.up l33).up l38).rd.dye 5).sub (M := [0]) rfl
    have a46 := l44.s
    cases hm
    rw [← ew44.trans (ew38)]
    exact Cw.ret (retA2 rfl ((b33.up l38).up l44) rfl (Res.mk (a40.trans a46) ⟨v0_0_29, v0_1_29, rfl, (s39.ul a46), s45⟩))
   ·refine sk (sr (la (b12.up l19) (cr hm (fun _ => p75 (k0 := 6) (k1 := 7) (Repo.rd (K := [0]) x0.Commits x0.Heads (h0_0.ul a21) (h0_1.ul a21))) ?_)))
    rintro z52 _ W54 hm l54 ⟨v0_0_54, v0_1_54, rfl, f54_0, f54_1⟩
    have a55 := a21.n l54
    refine al 8 [.slice none 0 0, .slice none 0 0] fun g58 W58 l58 b58 => ?_
    have a59 := a55.n l58
    refine sta b58 (oc_cons (f54_0.up l58).oc (oc_cons (f54_1.up l58).oc oc_nil)) fun W64 l64 b64 => ?_
    have a65 := a59.t l64
    refine nl (Cw.seq (Cw.draw [] [(0, 1), (1, 0), (2, 0), (3, 1), (4, 0), (6, 0), (7, 1), (8, 0), (9, 0), (10, 0), (11, 1), (5, 2), (12, 2), (13, 0), (14, 0), (15, 3), (16, 0)] mixed (by kernel_rfl) fun W70 l70 => ?_))
    have a71 := a65.n l70
    have o72 := ((f54_0.up l58).up l64).up l70
    have o73 := ((f54_1.up l58).up l64).up l70
    have b76 := b64.up l70
    refine Mw.q rfl rfl (fun _ c => R.lda (cs := [v0_0_54, v0_1_54]) (b76.clcs rfl c) rfl rfl) (Ds rfl (Ds rfl (Mw.q rfl rfl (fun _ c => R.lda (cs := [v0_0_54, v0_1_54]) (b76.clcs rfl c) rfl rfl) (Di rfl (Dfl b76 rfl rfl rfl (Di rfl ?_))))))
    obtain ⟨u77, e78, hm⟩ := ob hm
    refine Mw.p rfl rfl (fun _ => R.ix (α := Commit) o72.rd e78 rfl rfl rfl) (Df rfl ?_)
    obtain ⟨v79, c80, r81⟩ := (Commit.at2 (o72.rd.at_ e78)).cell rfl
    refine Mw.q rfl rfl (fun _ c => R.ld rfl rfl (cl_cell (Commit.at2 (o72.rd.at_ e78)).1 rfl c80 c)) ?_
    obtain ⟨z82, e83, hm⟩ := ob hm
    refine Mw.t rfl rfl (T.call rfl (p201 (K := [6, 7])  (x0 := (Vm.Repo.mk z52.Commits z52.Heads)) (Repo.rd (K := [6, 7]) z52.Commits z52.Heads (o72.rd.sub (M := [6, 7]) rfl) (o73.rd.sub (M := [6, 7]) rfl)) e83)) ?_
    rintro v0_84 _ ⟨W84, rfl, l84, ⟨_, rfl, f84_0⟩⟩
    have s85 := f84_0.sub (M := [0, 6, 7]) rfl
    have a86 := a71.n l84
    refine m0 l84 fun d84 => ?_
    have s92 := r81.up (l84.sub (M := []) rfl) rfl
    obtain ⟨z93, e94, hm⟩ := ob hm
    refine Mw.t rfl rfl (T.call rfl (p200 (K := [0, 6, 7])  (x0 := (Vm.Repo.mk z52.Commits z52.Heads)) ((Repo.rd (K := [6, 7]) z52.Commits z52.Heads ((o72.up l84).rd.sub (M := [6, 7]) rfl) ((o73.up l84).rd.sub (M := [6, 7]) rfl)).sub (M := [0, 6, 7]) rfl) s85 (s92.sub (M := [0, 6, 7]) rfl) e94)) ?_
    rintro _ _ ⟨W95, rfl, l95, ⟨v0_0_95, v0_1_95, rfl, f95_0, f95_1⟩⟩
    have s96 := f95_0.sub (M := [0, 6, 7]) rfl
    have s97 := f95_1.sub (M := [0, 6, 7]) rfl
    have a98 := a86.n l95
    refine mc d84 l95 fun d95 => Mw.p rfl rfl (fun _ => R.ext (vs := [.agg [v0_0_95, v0_1_95].toArray, vI z93.2]) (v := .agg [v0_0_95, v0_1_95].toArray) rfl rfl) (Mw.p rfl rfl (fun _ => R.ext (vs := [.agg [v0_0_95, v0_1_95].toArray, vI z93.2]) (v := vI z93.2) rfl rfl) (Mw.lu rfl (T.sta (vs := [v0_0_95, v0_1_95]) ((((((b23.up l54).up l58).up l64).up l70).up l84).up l95) rfl rfl (oc_cons s96.oc (oc_cons s97.oc oc_nil)) rfl rfl) ?_))
    rintro _ _ ⟨W104, rfl, l104, b104⟩
    have a105 := a98.t l104
    refine Hi rfl (Mw.nil ?_)
    have s110 := r81.up ((l84.sub (M := [3]) rfl).trans ((l95.sub (M := [3]) rfl).trans (l104.sub (M := [3]) rfl))) rfl
    have s111 := s85.up ((l95.sub (M := [3]) rfl).trans (l104.sub (M := [3]) rfl)) rfl
    have s112 := s96.up (l104.sub (M := [3]) rfl) rfl
    have s113 := s97.up (l104.sub (M := [3]) rfl) rfl
    obtain ⟨W114, ew114, l114, dj114⟩ := dyeE _ 6
    have s115 : Rd W114 [0] [v79] u77.Tree := by rw [dj114]; exact (s110.dye 6).sub (M := [0]) rfl
    have s116 : Rd W114 [0, 7] [v0_84] z82 := by rw [dj114]; exact (s111.dye 6).sub (M := [0, 7]) rfl
    have s117 : Rd W114 [0, 7] [v0_0_95] z93.1.Commits := by rw [dj114]; exact (s112.dye 6).sub (M := [0, 7]) rfl
    have s118 : Rd W114 [0, 7] [v0_1_95] z93.1.Heads := by rw [dj114]; exact (s113.dye 6).sub (M := [0, 7]) rfl
    have s119 : Rd (α := List Vm.Commit) W114 [0] [v0_0_54] z52.Commits := by rw [dj114]; exact ((((o72.up l84).up l95).up l104).rd.dye 6).sub (M := [0]) rfl
    have a120 := a105.t l114
    obtain ⟨W125, ew125, l125, dj125⟩ := dyeE _ 7
    have s126 : Rd W125 [0] [v0_84] z82 := by rw [dj125]; exact (s116.dye 7).sub (M := [0]) rfl
    have s127 : Rd W125 [0] [v0_0_95] z93.1.Commits := by rw [dj125]; exact (s117.dye 7).sub (M := [0]) rfl
    have s128 : Rd W125 [0] [v0_1_95] z93.1.Heads := by rw [dj125]; exact (s118.dye 7).sub (M := [0]) rfl
    have s129 : Rd (α := List Vm.Head) W125 [0] [v0_1_54] z52.Heads := by rw [dj125]; exact (((((o73.up l84).up l95).up l104).up l114).rd.dye 7).sub (M := [0]) rfl
    have a130 := a120.t l125
    cases hm
    rw [← ew125.trans (ew114)]
    exact Cw.ret (retA2 rfl ((b104.up l114).up l125) rfl (Res.mk a130 ⟨v0_0_95, v0_1_95, rfl, s127, s128⟩))
  ·refine rg (la b12 (ms rfl (ca hm (fun _ => p130 (Repo.rd (K := [0]) x0.Commits x0.Heads (h0_0.ul a11) (h0_1.ul a11))) fun z136 W138 hm l138 => ?_)))
   have a139 := a11.n l138
   refine Lw.lt rfl (mb rfl (bs hm (fun hc142 hm => ?_) fun hc142 hm => ?_))
   ·exact psk 3 hc142 rfl (Pb hc142 rfl (mb rfl (psk 7 rfl rfl (Pb rfl rfl (nl ((ag) ⟨true, W138, rfl, l138, rfl, hm⟩))))))
   ·refine wak 3 hc142 (ms rfl (ca hm (fun _ => p138) fun z143 W145 hm l145 => ?_))
    have a146 := a139.n l145
    refine Lw.r rfl (R.not rfl) (Pb hc142 rfl (mb rfl (bs hm (fun hc149 hm => ?_) fun hc149 hm => ?_)))
    ·exact psk 7 hc149 rfl (Pb hc149 rfl (nl ((ag) ⟨true, W145, rfl, (l138.j l145).w, rfl, hm⟩)))
    ·exact wak 7 hc149 (mi rfl (fl ((b12.up l138).up l145) rfl (Lw.ln x0.Commits (h0_0.ul a146) rfl (Lw.sub rfl (ca hm (fun _ => p84) fun z151 W153 hm l153 => Lw.r rfl (R.not rfl) (Pb hc149 rfl (nl ((ag) ⟨(!z151), W153, rfl, ((l138.j l145).j l153).w, rfl, hm⟩))))))))
theorem p192 {x0 v0_0_ v0_1_ x1 x2 x3 r} (h0 : Rd W K [v0_0_, v0_1_] x0) (hm : Vm.spec_PickOf x0 x1 x2 x3 = some r) : Q1 192 [.agg [v0_0_, v0_1_].toArray, vS x1, vS x2, vI x3] W [] fun W' v => ∃ u0_0 u0_1, v = .tuple [.agg [u0_0, u0_1].toArray, vI r.2].toArray ∧ Rd W' (0 :: K) [u0_0] r.1.Commits ∧ Rd W' (0 :: K) [u0_1] r.1.Heads :=
 (c192 (h0.view _) hm).ad (fk 0) fun _ _ ⟨u0_0, u0_1, e, f0, f1⟩ => ⟨u0_0, u0_1, e, f0.back rfl, f1.back rfl⟩
theorem c193 {x0 v0_0_ v0_1_ x1 x2 x3 r} (h0 : Rd W0 [0] [v0_0_, v0_1_] x0) (hm : Vm.spec_PickBack x0 x1 x2 x3 = some r) : Q0 193 [.agg [v0_0_, v0_1_].toArray, vS x1, vS x2, vI x3] W0 fun Wf v => ∃ u0_0 u0_1, v = .tuple [.agg [u0_0, u0_1].toArray, vI r.2].toArray ∧ Rd Wf [0] [u0_0] r.1.Commits ∧ Rd Wf [0] [u0_1] r.1.Heads := by
 unfold Vm.spec_PickBack at hm
 obtain ⟨w0_0, w0_1, he0, h0_0, h0_1⟩ := Repo.split h0
 simp only [List.cons.injEq, and_true, true_and] at he0
 obtain ⟨rfl, rfl⟩ := he0
 refine CallR.of Tryz.func193 rfl rfl rfl rfl (sr (bo 2 rfl fun g1 W1 l1 b1 => ?_))
 have a2 := l1.o
 refine al 3 [.slice none 0 0, .slice none 0 0] fun g3 W3 l3 b3 => ?_
 have a4 := a2.n l3
 refine Ni rfl (ssr (la (b1.up l3) (ca hm (fun _ => p74 (Repo.rd (K := [0]) x0.Commits x0.Heads (h0_0.ul a4) (h0_1.ul a4))) fun z8 W10 hm l10 => ?_)))
 have a11 := a4.n l10
 have b12 := (b1.up l3).up l10
 refine Lw.r rfl (R.not rfl) (nl (cn hm (fun hm => ?_) fun hm => ?_))
 ·refine sr (Lw.r rfl (R.bd (zs := [.slice none 0 0, .slice none 0 0]) (cs := [.slice none 0 0, .slice none 0 0]) [] rfl rfl rfl bp_nil) (sta (b3.up l10) (oc_cons rfl (oc_cons rfl oc_nil)) fun W15 l15 b15 => ?_))
  have a16 := a11.t l15
  refine Ni rfl ?_
  cases hm
  exact Cw.ret (retA2 rfl b15 rfl (Res.mk a16 ⟨.slice none 0 0, .slice none 0 0, rfl, (rdN (K := [0])), (rdN (K := [0]))⟩))
 ·refine sk (Cw.seq ?_)
  obtain ⟨K20, hK20, hm⟩ := jn_e hm
  refine Cw.join 15 32 [32] (fun l w => ∃ y18 W19, CW.w W19 = w ∧ Le [] W10 W19 ∧ l = [vB y18] ∧ K20 y18 = some r) ?_ ?_
  ·rintro _ _ σ ⟨y18, W19, rfl, l19, rfl, hm⟩
   rw [hK20] at hm
   have a21 := a11.n l19
   have b23 := (b3.up l10).up l19
   refine cn hm (fun hm => ?_) fun hm => ?_
   ·refine sr (la (b12.up l19) (cr hm (fun _ => p75 (k0 := 4) (k1 := 5) (Repo.rd (K := [0]) x0.Commits x0.Heads (h0_0.ul a21) (h0_1.ul a21))) ?_))
    rintro z27 _ W29 hm l29 ⟨v0_0_29, v0_1_29, rfl, f29_0, f29_1⟩
    have a30 := a21.n l29
    refine sta (b23.up l29) (oc_cons f29_0.oc (oc_cons f29_1.oc oc_nil)) fun W33 l33 b33 => ?_
    have a34 := a30.t l33
    refine Ni rfl ?_
    obtain ⟨W38, ew38, l38, dj38⟩ := dyeE _ 4
    have s39 : Rd (α := List Vm.Commit) W38 [0] [v0_0_29] z27.Commits := by rw [dj38]; exact ((f29_0.up l33).rd.dye 4).sub (M := [0]) rfl
    have a40 := a34.t l38
    obtain ⟨W44, ew44, l44, dj44⟩ := dyeE _ 5
    have s45 : Rd (α := List Vm.Head) W44 [0] [v0_1_29] z27.Heads := by rw [dj44]; exact (((f29_1.up l33).up l38).rd.dye 5).sub (M := [0]) rfl
    have a46 := l44.s
    cases hm
    rw [← ew44.trans (ew38)]
    exact Cw.ret (retA2 rfl ((b33.up l38).up l44) rfl (Res.mk (a40.trans a46) ⟨v0_0_29, v0_1_29, rfl, (s39.ul a46), s45⟩))
   ·refine sk (sr (la (b12.up l19) (cr hm (fun _ => p75 (k0 := 6) (k1 := 7) (Repo.rd (K := [0]) x0.Commits x0.Heads (h0_0.ul a21) (h0_1.ul a21))) ?_)))
    rintro z52 _ W54 hm l54 ⟨v0_0_54, v0_1_54, rfl, f54_0, f54_1⟩
    have a55 := a21.n l54
    refine al 8 [.slice none 0 0, .slice none 0 0] fun g58 W58 l58 b58 => ?_
    have a59 := a55.n l58
    refine sta b58 (oc_cons (f54_0.up l58).oc (oc_cons (f54_1.up l58).oc oc_nil)) fun W64 l64 b64 => ?_
    have a65 := a59.t l64
    refine nl (Cw.seq (Cw.draw [] [(0, 1), (1, 0), (2, 0), (3, 0), (4, 1), (5, 0), (6, 0), (7, 0), (8, 1), (9, 1), (10, 0), (11, 2), (12, 2), (13, 0), (14, 0), (15, 3), (16, 0)] mixed (by kernel_rfl) fun W70 l70 => ?_))
    have a71 := a65.n l70
    have o72 := ((f54_0.up l58).up l64).up l70
    have o73 := ((f54_1.up l58).up l64).up l70
    have b76 := b64.up l70
    refine Mw.q rfl rfl (fun _ c => R.lda (cs := [v0_0_54, v0_1_54]) (b76.clcs rfl c) rfl rfl) (Ds rfl (Ds rfl (Dfl b76 rfl rfl rfl (Di rfl ?_))))
    obtain ⟨u77, e78, hm⟩ := ob hm
    refine Mw.p rfl rfl (fun _ => R.ix (α := Commit) o72.rd e78 rfl rfl rfl) (Df rfl ?_)
    obtain ⟨v79, c80, r81⟩ := (Commit.at2 (o72.rd.at_ e78)).cell rfl
    refine Mw.q rfl rfl (fun _ c => R.ld rfl rfl (cl_cell (Commit.at2 (o72.rd.at_ e78)).1 rfl c80 c)) (Mw.q rfl rfl (fun _ c => R.lda (cs := [v0_0_54, v0_1_54]) (b76.clcs rfl c) rfl rfl) (Di rfl ?_))
    obtain ⟨z82, e83, hm⟩ := ob hm
    refine Mw.t rfl rfl (T.call rfl (p201 (K := [6, 7])  (x0 := (Vm.Repo.mk z52.Commits z52.Heads)) (Repo.rd (K := [6, 7]) z52.Commits z52.Heads (o72.rd.sub (M := [6, 7]) rfl) (o73.rd.sub (M := [6, 7]) rfl)) e83)) ?_
    rintro v0_84 _ ⟨W84, rfl, l84, ⟨_, rfl, f84_0⟩⟩
    have s85 := f84_0.sub (M := [0, 6, 7]) rfl
    have a86 := a71.n l84
    refine m0 l84 fun d84 => ?_
    have s92 := r81.up (l84.sub (M := []) rfl) rfl
    obtain ⟨z93, e94, hm⟩ := ob hm
    refine Mw.t rfl rfl (T.call rfl (p200 (K := [0, 6, 7])  (x0 := (Vm.Repo.mk z52.Commits z52.Heads)) ((Repo.rd (K := [6, 7]) z52.Commits z52.Heads ((o72.up l84).rd.sub (M := [6, 7]) rfl) ((o73.up l84).rd.sub (M := [6, 7]) rfl)).sub (M := [0, 6, 7]) rfl) (s92.sub (M := [0, 6, 7]) rfl) s85 e94)) ?_
    rintro _ _ ⟨W95, rfl, l95, ⟨v0_0_95, v0_1_95, rfl, f95_0, f95_1⟩⟩
    have s96 := f95_0.sub (M := [0, 6, 7]) rfl
    have s97 := f95_1.sub (M := [0, 6, 7]) rfl
    have a98 := a86.n l95
    refine mc d84 l95 fun d95 => Mw.p rfl rfl (fun _ => R.ext (vs := [.agg [v0_0_95, v0_1_95].toArray, vI z93.2]) (v := .agg [v0_0_95, v0_1_95].toArray) rfl rfl) (Mw.p rfl rfl (fun _ => R.ext (vs := [.agg [v0_0_95, v0_1_95].toArray, vI z93.2]) (v := vI z93.2) rfl rfl) (Mw.lu rfl (T.sta (vs := [v0_0_95, v0_1_95]) ((((((b23.up l54).up l58).up l64).up l70).up l84).up l95) rfl rfl (oc_cons s96.oc (oc_cons s97.oc oc_nil)) rfl rfl) ?_))
    rintro _ _ ⟨W104, rfl, l104, b104⟩
    have a105 := a98.t l104
    refine Hi rfl (Mw.nil ?_)
    have s110 := r81.up ((l84.sub (M := [3]) rfl).trans ((l95.sub (M := [3]) rfl).trans (l104.sub (M := [3]) rfl))) rfl
    have s111 := s85.up ((l95.sub (M := [3]) rfl).trans (l104.sub (M := [3]) rfl)) rfl
    have s112 := s96.up (l104.sub (M := [3]) rfl) rfl
    have s113 := s97.up (l104.sub (M := [3]) rfl) rfl
    obtain ⟨W114, ew114, l114, dj114⟩ := dyeE _ 6
    have s115 : Rd W114 [0] [v79] u77.Tree := by rw [dj114]; exact (s110.dye 6).sub (M := [0]) rfl
    have s116 : Rd W114 [0, 7] [v0_84] z82 := by rw [dj114]; exact (s111.dye 6).sub (M := [0, 7]) rfl
    have s117 : Rd W114 [0, 7] [v0_0_95] z93.1.Commits := by rw [dj114]; exact (s112.dye 6).sub (M := [0, 7]) rfl
    have s118 : Rd W114 [0, 7] [v0_1_95] z93.1.Heads := by rw [dj114]; exact (s113.dye 6).sub (M := [0, 7]) rfl
    have s119 : Rd (α := List Vm.Commit) W114 [0] [v0_0_54] z52.Commits := by rw [dj114]; exact ((((o72.up l84).up l95).up l104).rd.dye 6).sub (M := [0]) rfl
    have a120 := a105.t l114
    obtain ⟨W125, ew125, l125, dj125⟩ := dyeE _ 7
    have s126 : Rd W125 [0] [v0_84] z82 := by rw [dj125]; exact (s116.dye 7).sub (M := [0]) rfl
    have s127 : Rd W125 [0] [v0_0_95] z93.1.Commits := by rw [dj125]; exact (s117.dye 7).sub (M := [0]) rfl
    have s128 : Rd W125 [0] [v0_1_95] z93.1.Heads := by rw [dj125]; exact (s118.dye 7).sub (M := [0]) rfl
    have s129 : Rd (α := List Vm.Head) W125 [0] [v0_1_54] z52.Heads := by rw [dj125]; exact (((((o73.up l84).up l95).up l104).up l114).rd.dye 7).sub (M := [0]) rfl
    have a130 := a120.t l125
    cases hm
    rw [← ew125.trans (ew114)]
    exact Cw.ret (retA2 rfl ((b104.up l114).up l125) rfl (Res.mk a130 ⟨v0_0_95, v0_1_95, rfl, s127, s128⟩))
  ·refine rg (la b12 (ms rfl (ca hm (fun _ => p130 (Repo.rd (K := [0]) x0.Commits x0.Heads (h0_0.ul a11) (h0_1.ul a11))) fun z136 W138 hm l138 => ?_)))
   have a139 := a11.n l138
   refine Lw.lt rfl (mb rfl (bs hm (fun hc142 hm => ?_) fun hc142 hm => ?_))
   ·exact psk 3 hc142 rfl (Pb hc142 rfl (mb rfl (psk 7 rfl rfl (Pb rfl rfl (nl ((ag) ⟨true, W138, rfl, l138, rfl, hm⟩))))))
   ·refine wak 3 hc142 (ms rfl (ca hm (fun _ => p138) fun z143 W145 hm l145 => ?_))
    have a146 := a139.n l145
    refine Lw.r rfl (R.not rfl) (Pb hc142 rfl (mb rfl (bs hm (fun hc149 hm => ?_) fun hc149 hm => ?_)))
    ·exact psk 7 hc149 rfl (Pb hc149 rfl (nl ((ag) ⟨true, W145, rfl, (l138.j l145).w, rfl, hm⟩)))
    ·exact wak 7 hc149 (mi rfl (fl ((b12.up l138).up l145) rfl (Lw.ln x0.Commits (h0_0.ul a146) rfl (Lw.sub rfl (ca hm (fun _ => p84) fun z151 W153 hm l153 => Lw.r rfl (R.not rfl) (Pb hc149 rfl (nl ((ag) ⟨(!z151), W153, rfl, ((l138.j l145).j l153).w, rfl, hm⟩))))))))
theorem p193 {x0 v0_0_ v0_1_ x1 x2 x3 r} (h0 : Rd W K [v0_0_, v0_1_] x0) (hm : Vm.spec_PickBack x0 x1 x2 x3 = some r) : Q1 193 [.agg [v0_0_, v0_1_].toArray, vS x1, vS x2, vI x3] W [] fun W' v => ∃ u0_0 u0_1, v = .tuple [.agg [u0_0, u0_1].toArray, vI r.2].toArray ∧ Rd W' (0 :: K) [u0_0] r.1.Commits ∧ Rd W' (0 :: K) [u0_1] r.1.Heads :=
 (c193 (h0.view _) hm).ad (fk 0) fun _ _ ⟨u0_0, u0_1, e, f0, f1⟩ => ⟨u0_0, u0_1, e, f0.back rfl, f1.back rfl⟩
theorem c177 {x0 v0_0_ v0_1_ x1 v1_6_ r} (h0 : Rd W0 [0] [v0_0_, v0_1_] x0) (h1 : Rd W0 [0] [vI x1.Kind, vS x1.Branch, vS x1.Who, vS x1.Path, vS x1.To, vI x1.At, v1_6_] x1) (hm : Vm.spec_l19Do x0 x1 = some r) : Q0 177 [.agg [v0_0_, v0_1_].toArray, .agg [vI x1.Kind, vS x1.Branch, vS x1.Who, vS x1.Path, vS x1.To, vI x1.At, v1_6_].toArray] W0 fun Wf v => ∃ u0_0 u0_1, v = .tuple [.agg [u0_0, u0_1].toArray, vI r.2].toArray ∧ Rd Wf [0] [u0_0] r.1.Commits ∧ Rd Wf [0] [u0_1] r.1.Heads := by
 unfold Vm.spec_l19Do at hm
 obtain ⟨w0_0, w0_1, he0, h0_0, h0_1⟩ := Repo.split h0
 simp only [List.cons.injEq, and_true, true_and] at he0
 obtain ⟨rfl, rfl⟩ := he0
 obtain ⟨w1_0, he1, h1_6⟩ := Op.split h1
 simp only [List.cons.injEq, and_true, true_and] at he1
 obtain rfl := he1
 refine CallR.of Tryz.func177 rfl rfl rfl rfl (sr (bo 2 rfl fun g1 W1 l1 b1 => ?_))
 have a2 := l1.o
 refine bo 3 rfl fun g3 W3 l3 b3 => ?_
 have a4 := a2.n l3
 refine al 4 [.slice none 0 0, .slice none 0 0] fun g6 W6 l6 b6 => ?_
 have a7 := a4.n l6
 have b8 := (b1.up l3).up l6
 refine Ni rfl (sr (la b8 (fl (b3.up l6) rfl (ca hm (fun _ => p130 (Repo.rd (K := [0]) x0.Commits x0.Heads (h0_0.ul a7) (h0_1.ul a7))) fun z12 W14 hm l14 => ?_))))
 have a15 := a7.n l14
 refine Ni rfl (sr (Lw.t rfl (T.lit0 (α := File) 5 []) ?_))
 rintro v19 _ ⟨W19, rfl, l19, o19⟩
 have a20 := a15.n l19
 refine Nv v19 rfl ?_
 obtain ⟨W24, ew24, l24, dj24⟩ := dyeE _ 5
 rw [← ew24]
 have s25 : Rd (α := List Vm.File) W24 [0] [v19] ([] : List File) := by rw [dj24]; exact (o19.rd.dye 5).sub (M := [0]) rfl
 have a26 := a20.t l24
 have b27 := ((b8.up l14).up l19).up l24
 obtain ⟨K34, hK34, hm⟩ := jn_e hm
 refine Cw.join 21 28 [7] (fun l w => ∃ y30 v31 W33, CW.w W33 = w ∧ Le [] W24 W33 ∧ l = [v31] ∧ Rd W33 [0] [v31] y30 ∧ K34 y30 = some r) ?_ ?_
 ·rintro _ _ σ ⟨y30, v31, W33, rfl, l33, rfl, r32, hm⟩
  rw [hK34] at hm
  have a35 := a26.n l33
  have b36 := b27.up l33
  have b37 := ((((b3.up l6).up l14).up l19).up l24).up l33
  have b38 := (((b6.up l14).up l19).up l24).up l33
  refine ssr (fl b37 rfl (nl (Cw.block (sr (Lw.eq rfl (Nb rfl (cn hm (fun hm => ?_) fun hm => ?_)))))))
  ·refine sr (mv v31 rfl (fl b37 rfl (fl b37 rfl (Lw.r rfl (R.bd (zs := [vS ([] : Str), .slice none 0 0]) (cs := [vS x1.Path, v1_6_]) [(0, vS x1.Path), (1, v1_6_)] rfl rfl rfl (bp_cons rfl rfl (bp_cons h1_6.oc rfl bp_nil))) (cr hm (fun _ => p174 (k0 := 6) (x1 := (Vm.File.mk x1.Path x1.Text)) r32 (File.rd (K := [0]) x1.Path x1.Text (h1_6.ul a35))) ?_)))))
   rintro z41 _ W43 hm l43 ⟨v0_43, rfl, f43_0⟩
   have o44 : Ow (α := List (Sh Vm.File)) W43 6 [0] [v0_43] z41.1 := f43_0.sub rfl
   have a45 := a35.n l43
   refine mv (.tuple [v0_43, vB z41.2].toArray) rfl (Lw.r rfl (R.ext (vs := [v0_43, vB z41.2]) (v := v0_43) rfl rfl) (Lw.r rfl (R.ext (vs := [v0_43, vB z41.2]) (v := vB z41.2) rfl rfl) (Gv v0_43 rfl (Nb rfl (sr (la (b36.up l43) (la (b37.up l43) (mv v0_43 rfl (mb rfl ?_)))))))))
   have s52 : Rd (α := List Vm.File) W43 [6, 0] [v0_43] z41.1 := Ow.rdSh o44
   refine cr hm (fun _ => p188 (K := [0, 6]) ((Repo.rd (K := [0]) x0.Commits x0.Heads (h0_0.ul a45) (h0_1.ul a45)).sub (M := [0, 6]) rfl) ((Op.rd (K := [0]) x1.Kind x1.Branch x1.Who x1.Path x1.To x1.At x1.Text (h1_6.ul a45)).sub (M := [0, 6]) rfl) (s52.sub (M := [0, 6]) rfl)) ?_
   rintro z53 _ W55 hm l55 ⟨v0_0_55, v0_1_55, rfl, f55_0, f55_1⟩
   have s56 := f55_0.sub (M := [0, 6]) rfl
   have s57 := f55_1.sub (M := [0, 6]) rfl
   have a58 := a45.n l55
   refine Lw.r rfl (R.ext (vs := [.agg [v0_0_55, v0_1_55].toArray, vI z53.2]) (v := .agg [v0_0_55, v0_1_55].toArray) rfl rfl) (Lw.r rfl (R.ext (vs := [.agg [v0_0_55, v0_1_55].toArray, vI z53.2]) (v := vI z53.2) rfl rfl) (sta ((b38.up l43).up l55) (oc_cons s56.oc (oc_cons s57.oc oc_nil)) fun W63 l63 b63 => ?_))
   have a64 := a58.t l63
   refine Ni rfl ?_
   have s68 := s56.up (l63.sub (M := [4]) rfl) rfl
   have s69 := s57.up (l63.sub (M := [4]) rfl) rfl
   obtain ⟨W70, ew70, l70, dj70⟩ := dyeE _ 6
   have s71 : Rd W70 [0] [v0_0_55] z53.1.Commits := by rw [dj70]; exact (s68.dye 6).sub (M := [0]) rfl
   have s72 : Rd W70 [0] [v0_1_55] z53.1.Heads := by rw [dj70]; exact (s69.dye 6).sub (M := [0]) rfl
   have s73 : Rd (α := List Vm.File) W70 [0] [v0_43] z41.1 := by rw [dj70]; exact (((o44.up l55).up l63).rd.dye 6).sub (M := [0]) rfl
   have a74 := a64.t l70
   cases hm
   rw [← ew70]
   exact Cw.ret (retA2 rfl (b63.up l70) rfl (Res.mk a74 ⟨v0_0_55, v0_1_55, rfl, s71, s72⟩))
  ·refine sr (Lw.eq rfl (Nb rfl (cn hm (fun hm => ?_) fun hm => ?_)))
   ·refine sr (mv v31 rfl (fl b37 rfl (cr hm (fun _ => p189 (k0 := 7) r32) ?_)))
    rintro z79 _ W81 hm l81 ⟨v0_81, rfl, f81_0⟩
    have o82 : Ow (α := List (Sh Vm.File)) W81 7 [0] [v0_81] z79.1 := f81_0.sub rfl
    have a83 := a35.n l81
    refine mv (.tuple [v0_81, vB z79.2].toArray) rfl (Lw.r rfl (R.ext (vs := [v0_81, vB z79.2]) (v := v0_81) rfl rfl) (Lw.r rfl (R.ext (vs := [v0_81, vB z79.2]) (v := vB z79.2) rfl rfl) (Gv v0_81 rfl (Nb rfl (sr (la (b36.up l81) (la (b37.up l81) (mv v0_81 rfl (mb rfl ?_)))))))))
    have s90 : Rd (α := List Vm.File) W81 [7, 0] [v0_81] z79.1 := Ow.rdSh o82
    refine cr hm (fun _ => p188 (K := [0, 7]) ((Repo.rd (K := [0]) x0.Commits x0.Heads (h0_0.ul a83) (h0_1.ul a83)).sub (M := [0, 7]) rfl) ((Op.rd (K := [0]) x1.Kind x1.Branch x1.Who x1.Path x1.To x1.At x1.Text (h1_6.ul a83)).sub (M := [0, 7]) rfl) (s90.sub (M := [0, 7]) rfl)) ?_
    rintro z91 _ W93 hm l93 ⟨v0_0_93, v0_1_93, rfl, f93_0, f93_1⟩
    have s94 := f93_0.sub (M := [0, 7]) rfl
    have s95 := f93_1.sub (M := [0, 7]) rfl
    have a96 := a83.n l93
    refine Lw.r rfl (R.ext (vs := [.agg [v0_0_93, v0_1_93].toArray, vI z91.2]) (v := .agg [v0_0_93, v0_1_93].toArray) rfl rfl) (Lw.r rfl (R.ext (vs := [.agg [v0_0_93, v0_1_93].toArray, vI z91.2]) (v := vI z91.2) rfl rfl) (sta ((b38.up l81).up l93) (oc_cons s94.oc (oc_cons s95.oc oc_nil)) fun W101 l101 b101 => ?_))
    have a102 := a96.t l101
    refine Ni rfl ?_
    have s106 := s94.up (l101.sub (M := [4]) rfl) rfl
    have s107 := s95.up (l101.sub (M := [4]) rfl) rfl
    obtain ⟨W108, ew108, l108, dj108⟩ := dyeE _ 7
    have s109 : Rd W108 [0] [v0_0_93] z91.1.Commits := by rw [dj108]; exact (s106.dye 7).sub (M := [0]) rfl
    have s110 : Rd W108 [0] [v0_1_93] z91.1.Heads := by rw [dj108]; exact (s107.dye 7).sub (M := [0]) rfl
    have s111 : Rd (α := List Vm.File) W108 [0] [v0_81] z79.1 := by rw [dj108]; exact (((o82.up l93).up l101).rd.dye 7).sub (M := [0]) rfl
    have a112 := a102.t l108
    cases hm
    rw [← ew108]
    exact Cw.ret (retA2 rfl (b101.up l108) rfl (Res.mk a112 ⟨v0_0_93, v0_1_93, rfl, s109, s110⟩))
   ·refine sr (Lw.eq rfl (Nb rfl (cn hm (fun hm => ?_) fun hm => ?_)))
    ·refine sr (mv v31 rfl (fl b37 rfl (fl b37 rfl (cr hm (fun _ => p190 (k0 := 8) r32) ?_))))
     rintro z117 _ W119 hm l119 ⟨v0_119, rfl, f119_0⟩
     have o120 : Ow (α := List (Sh Vm.File)) W119 8 [0] [v0_119] z117.1 := f119_0.sub rfl
     have a121 := a35.n l119
     refine mv (.tuple [v0_119, vB z117.2].toArray) rfl (Lw.r rfl (R.ext (vs := [v0_119, vB z117.2]) (v := v0_119) rfl rfl) (Lw.r rfl (R.ext (vs := [v0_119, vB z117.2]) (v := vB z117.2) rfl rfl) (Gv v0_119 rfl (Nb rfl (sr (la (b36.up l119) (la (b37.up l119) (mv v0_119 rfl (mb rfl ?_)))))))))
     have s128 : Rd (α := List Vm.File) W119 [8, 0] [v0_119] z117.1 := Ow.rdSh o120
     refine cr hm (fun _ => p188 (K := [0, 8]) ((Repo.rd (K := [0]) x0.Commits x0.Heads (h0_0.ul a121) (h0_1.ul a121)).sub (M := [0, 8]) rfl) ((Op.rd (K := [0]) x1.Kind x1.Branch x1.Who x1.Path x1.To x1.At x1.Text (h1_6.ul a121)).sub (M := [0, 8]) rfl) (s128.sub (M := [0, 8]) rfl)) ?_
     rintro z129 _ W131 hm l131 ⟨v0_0_131, v0_1_131, rfl, f131_0, f131_1⟩
     have s132 := f131_0.sub (M := [0, 8]) rfl
     have s133 := f131_1.sub (M := [0, 8]) rfl
     have a134 := a121.n l131
     refine Lw.r rfl (R.ext (vs := [.agg [v0_0_131, v0_1_131].toArray, vI z129.2]) (v := .agg [v0_0_131, v0_1_131].toArray) rfl rfl) (Lw.r rfl (R.ext (vs := [.agg [v0_0_131, v0_1_131].toArray, vI z129.2]) (v := vI z129.2) rfl rfl) (sta ((b38.up l119).up l131) (oc_cons s132.oc (oc_cons s133.oc oc_nil)) fun W139 l139 b139 => ?_))
     have a140 := a134.t l139
     refine Ni rfl ?_
     have s144 := s132.up (l139.sub (M := [4]) rfl) rfl
     have s145 := s133.up (l139.sub (M := [4]) rfl) rfl
     obtain ⟨W146, ew146, l146, dj146⟩ := dyeE _ 8
     have s147 : Rd W146 [0] [v0_0_131] z129.1.Commits := by rw [dj146]; exact (s144.dye 8).sub (M := [0]) rfl
     have s148 : Rd W146 [0] [v0_1_131] z129.1.Heads := by rw [dj146]; exact (s145.dye 8).sub (M := [0]) rfl
     have s149 : Rd (α := List Vm.File) W146 [0] [v0_119] z117.1 := by rw [dj146]; exact (((o120.up l131).up l139).rd.dye 8).sub (M := [0]) rfl
     have a150 := a140.t l146
     cases hm
     rw [← ew146]
     exact Cw.ret (retA2 rfl (b139.up l146) rfl (Res.mk a150 ⟨v0_0_131, v0_1_131, rfl, s147, s148⟩))
    ·refine sr (Lw.eq rfl (Nb rfl (cn hm (fun hm => ?_) fun hm => ?_)))
     ·refine sr (la b36 (fl b37 rfl (mi rfl (cr hm (fun _ => p60 (Repo.rd (K := [0]) x0.Commits x0.Heads (h0_0.ul a35) (h0_1.ul a35))) ?_))))
      rintro z157 _ W159 hm l159 ⟨v0_0_159, v0_1_159, rfl, f159_0, f159_1⟩
      have s160 := f159_0.sub (M := [0]) rfl
      have s161 := f159_1.sub (M := [0]) rfl
      have a162 := a35.n l159
      refine mv (.tuple [.agg [v0_0_159, v0_1_159].toArray, vB z157.2].toArray) rfl (Lw.r rfl (R.ext (vs := [.agg [v0_0_159, v0_1_159].toArray, vB z157.2]) (v := .agg [v0_0_159, v0_1_159].toArray) rfl rfl) (Lw.r rfl (R.ext (vs := [.agg [v0_0_159, v0_1_159].toArray, vB z157.2]) (v := vB z157.2) rfl rfl) (al 9 [.slice none 0 0, .slice none 0 0] fun g166 W166 l166 b166 => ?_)))
      have a167 := l166.o
      refine sta b166 (oc_cons s160.oc (oc_cons s161.oc oc_nil)) fun W171 l171 b171 => ?_
      have a172 := l171.s
      have b175 := ((b38.up l159).up l166).up l171
      refine Nb rfl (ssr (mb rfl (Lw.r rfl (R.not rfl) (nl (cn hm (fun hm => ?_) fun hm => ?_)))))
      ·refine sr (la (((b36.up l159).up l166).up l171) (sta b175 (oc_cons h0_0.oc (oc_cons h0_1.oc oc_nil)) fun W177 l177 b177 => ?_))
       have a178 := ((a162.trans a167).trans a172).t l177
       refine Ni rfl ?_
       cases hm
       exact Cw.ret (retA2 rfl b177 rfl (Res.mk a178 ⟨v0_0_, v0_1_, rfl, (h0_0.ul a178), (h0_1.ul a178)⟩))
      ·refine sk (sr (la b171 (sta b175 (oc_cons s160.oc (oc_cons s161.oc oc_nil)) fun W184 l184 b184 => ?_)))
       have a185 := l184.s
       refine Ni rfl ?_
       cases hm
       exact Cw.ret (retA2 rfl b184 rfl (Res.mk (((a162.trans a167).trans a172).trans a185) ⟨v0_0_159, v0_1_159, rfl, (s160.ul ((a167.trans a172).trans a185)), (s161.ul ((a167.trans a172).trans a185))⟩))
     ·refine sr (Lw.eq rfl (Nb rfl (cn hm (fun hm => ?_) fun hm => ?_)))
      ·refine Cw.seq (Cw.draw [] [(0, 1), (1, 0), (2, 1), (3, 0), (4, 1), (5, 1), (6, 0), (7, 1), (8, 2), (9, 2), (10, 0), (11, 0), (12, 3), (13, 0)] mixed (by kernel_rfl) fun W192 l192 => ?_)
       have a193 := a35.n l192
       have b195 := b37.up l192
       refine Mw.q rfl rfl (fun _ c => R.lda (cs := [v0_0_, v0_1_]) ((b36.up l192).clcs rfl c) rfl rfl) (Dfl b195 rfl rfl rfl (Dfl b195 rfl rfl rfl (Mw.q rfl rfl (fun _ c => R.lda (cs := [v0_0_, v0_1_]) ((b36.up l192).clcs rfl c) rfl rfl) (Dfl b195 rfl rfl rfl ?_))))
       obtain ⟨z199, e200, hm⟩ := ob hm
       refine Mw.t rfl rfl (T.call rfl (p130  (Repo.rd (K := [0]) x0.Commits x0.Heads (h0_0.ul a193) (h0_1.ul a193)) e200)) ?_
       rintro _ _ ⟨W201, rfl, l201, rfl⟩
       have a202 := a193.n l201
       refine m0 l201 fun d201 => ?_
       obtain ⟨z208, e209, hm⟩ := ob hm
       refine Mw.t rfl rfl (T.call rfl (p191  (Repo.rd (K := [0]) x0.Commits x0.Heads (h0_0.ul a202) (h0_1.ul a202)) e209)) ?_
       rintro _ _ ⟨W210, rfl, l210, ⟨v0_0_210, v0_1_210, rfl, f210_0, f210_1⟩⟩
       have s211 := f210_0.sub (M := [0]) rfl
       have s212 := f210_1.sub (M := [0]) rfl
       have a213 := a202.n l210
       refine mc d201 l210 fun d210 => Mw.p rfl rfl (fun _ => R.ext (vs := [.agg [v0_0_210, v0_1_210].toArray, vI z208.2]) (v := .agg [v0_0_210, v0_1_210].toArray) rfl rfl) (Mw.p rfl rfl (fun _ => R.ext (vs := [.agg [v0_0_210, v0_1_210].toArray, vI z208.2]) (v := vI z208.2) rfl rfl) (Mw.lu rfl (T.sta (vs := [v0_0_210, v0_1_210]) (((b38.up l192).up l201).up l210) rfl rfl (oc_cons s211.oc (oc_cons s212.oc oc_nil)) rfl rfl) ?_))
       rintro _ _ ⟨W217, rfl, l217, b217⟩
       have a218 := l217.s
       refine Hi rfl (Mw.nil ?_)
       cases hm
       exact Cw.ret (retA2 rfl b217 rfl (Res.mk (a213.trans a218) ⟨v0_0_210, v0_1_210, rfl, (s211.ul a218), (s212.ul a218)⟩))
      ·refine sr (Lw.eq rfl (Nb rfl (cn hm (fun hm => ?_) fun hm => ?_)))
       ·refine sr (la b36 (fl b37 rfl (fl b37 rfl (fl b37 rfl (cr hm (fun _ => p192 (Repo.rd (K := [0]) x0.Commits x0.Heads (h0_0.ul a35) (h0_1.ul a35))) ?_)))))
        rintro z226 _ W228 hm l228 ⟨v0_0_228, v0_1_228, rfl, f228_0, f228_1⟩
        have s229 := f228_0.sub (M := [0]) rfl
        have s230 := f228_1.sub (M := [0]) rfl
        have a231 := a35.n l228
        refine Lw.r rfl (R.ext (vs := [.agg [v0_0_228, v0_1_228].toArray, vI z226.2]) (v := .agg [v0_0_228, v0_1_228].toArray) rfl rfl) (Lw.r rfl (R.ext (vs := [.agg [v0_0_228, v0_1_228].toArray, vI z226.2]) (v := vI z226.2) rfl rfl) (sta (b38.up l228) (oc_cons s229.oc (oc_cons s230.oc oc_nil)) fun W235 l235 b235 => ?_))
        have a236 := l235.s
        refine Ni rfl ?_
        cases hm
        exact Cw.ret (retA2 rfl b235 rfl (Res.mk (a231.trans a236) ⟨v0_0_228, v0_1_228, rfl, (s229.ul a236), (s230.ul a236)⟩))
       ·refine sk (sr (la b36 (fl b37 rfl (fl b37 rfl (fl b37 rfl (cr hm (fun _ => p193 (Repo.rd (K := [0]) x0.Commits x0.Heads (h0_0.ul a35) (h0_1.ul a35))) ?_))))))
        rintro z243 _ W245 hm l245 ⟨v0_0_245, v0_1_245, rfl, f245_0, f245_1⟩
        have s246 := f245_0.sub (M := [0]) rfl
        have s247 := f245_1.sub (M := [0]) rfl
        have a248 := a35.n l245
        refine Lw.r rfl (R.ext (vs := [.agg [v0_0_245, v0_1_245].toArray, vI z243.2]) (v := .agg [v0_0_245, v0_1_245].toArray) rfl rfl) (Lw.r rfl (R.ext (vs := [.agg [v0_0_245, v0_1_245].toArray, vI z243.2]) (v := vI z243.2) rfl rfl) (sta (b38.up l245) (oc_cons s246.oc (oc_cons s247.oc oc_nil)) fun W252 l252 b252 => ?_))
        have a253 := l252.s
        refine Ni rfl ?_
        cases hm
        exact Cw.ret (retA2 rfl b252 rfl (Res.mk (a248.trans a253) ⟨v0_0_245, v0_1_245, rfl, (s246.ul a253), (s247.ul a253)⟩))
 ·refine sr (mi rfl (Lw.ge rfl (nl (cn hm (fun hm => ?_) fun hm => ?_))))
  ·refine rg (fl b27 rfl (mi rfl ?_))
   obtain ⟨u259, e260, hm⟩ := ob hm
   refine Lw.r rfl (R.ix (α := Commit) (h0_0.ul a26) e260 rfl rfl rfl) (Lw.fa rfl ?_)
   obtain ⟨v262, c263, r264⟩ := (Commit.at2 ((h0_0.ul a26).at_ e260)).cell rfl
   exact Lw.r rfl (R.ld rfl rfl c263) (Nv v262 rfl ((ag) ⟨u259.Tree, v262, W24, rfl, Le.refl _ _, rfl, r264, hm⟩))
  ·exact sk ((ag) ⟨([] : List File), v19, W24, rfl, Le.refl _ _, rfl, s25, hm⟩)
theorem p177 {x0 v0_0_ v0_1_ x1 v1_6_ r} (h0 : Rd W K [v0_0_, v0_1_] x0) (h1 : Rd W K [vI x1.Kind, vS x1.Branch, vS x1.Who, vS x1.Path, vS x1.To, vI x1.At, v1_6_] x1) (hm : Vm.spec_l19Do x0 x1 = some r) : Q1 177 [.agg [v0_0_, v0_1_].toArray, .agg [vI x1.Kind, vS x1.Branch, vS x1.Who, vS x1.Path, vS x1.To, vI x1.At, v1_6_].toArray] W [] fun W' v => ∃ u0_0 u0_1, v = .tuple [.agg [u0_0, u0_1].toArray, vI r.2].toArray ∧ Rd W' (0 :: K) [u0_0] r.1.Commits ∧ Rd W' (0 :: K) [u0_1] r.1.Heads :=
 (c177 (h0.view _) (h1.view _) hm).ad (fk 0) fun _ _ ⟨u0_0, u0_1, e, f0, f1⟩ => ⟨u0_0, u0_1, e, f0.back rfl, f1.back rfl⟩
theorem c161 {x0 v0_ r} (h0 : Rd W0 [0] [v0_] x0) (hm : Vm.spec_RepoPlay x0 = some r) : Q0 161 [v0_] W0 fun Wf v => ∃ u0_0 u0_1, v = .agg [u0_0, u0_1].toArray ∧ Rd Wf [0] [u0_0] r.Commits ∧ Rd Wf [0] [u0_1] r.Heads := by
 unfold Vm.spec_RepoPlay at hm
 refine CallR.of Tryz.func161 rfl rfl rfl rfl (sr (al 2 [.slice none 0 0, .slice none 0 0] fun g1 W1 l1 b1 => ?_))
 have a2 := l1.o
 refine nl (sr (Lw.r rfl (R.bd (zs := [.slice none 0 0, .slice none 0 0]) (cs := [.slice none 0 0, .slice none 0 0]) [] rfl rfl rfl bp_nil) (al 3 [.slice none 0 0, .slice none 0 0] fun g3 W3 l3 b3 => ?_)))
 have a4 := a2.n l3
 refine sta b3 (oc_cons rfl (oc_cons rfl oc_nil)) fun W6 l6 b6 => ?_
 have a7 := a4.t l6
 refine nl (ssr (Ni rfl (Cw.block ?_)))
 obtain ⟨K20, hK20, hm⟩ := jn_e hm
 refine Cw.loop 8 32 [4, 5, 6] (fun m l w => ∃ y9 y12 y15 j10 j11 v13 v16 W19, CW.w W19 = w ∧ Le [3, 6] W6 W19 ∧ l = [vI y9, j10, j11] ∧ Rd W19 [0] [v13] y12 ∧ Rd W19 [0] [v16] y15 ∧ Bx W19 3 g3 [v13, v16] ∧ Vm.spec_RepoPlay_l1 x0 K20 m y9 y12 y15 = some r) _ ⟨0, ([] : List Commit), ([] : List Head), undef, undef, .slice none 0 0, .slice none 0 0, W6, rfl, Le.refl _ _, rfl, rdN, rdN, b6, hm⟩ ?_
 rintro (_ | m21) _ _ σ ⟨y9, y12, y15, j10, j11, v13, v16, W19, rfl, l19, rfl, r14, r17, b18, hm⟩
 ·cases hm
 unfold Vm.spec_RepoPlay_l1 at hm
 have a22 := a7.t l19
 refine Cw.seq ?_
 obtain ⟨K26, hK26, hm⟩ := jn_e hm
 refine Cw.join 8 15 [15] (fun l w => ∃ y24 W25, CW.w W25 = w ∧ Le [] W19 W25 ∧ l = [vB y24] ∧ K26 y24 = some r) ?_ ?_
 ·rintro _ _ σ ⟨y24, W25, rfl, l25, rfl, hm⟩
  rw [hK26] at hm
  have a27 := l25.o
  refine cn hm (fun hm => ?_) fun hm => ?_
  ·refine sk ?_
   obtain ⟨K41, hK41, hm⟩ := jn_e hm
   refine Cw.join 18 32 [5, 6] (fun l w => ∃ y33 y36 j31 j32 v34 v37 W40, CW.w W40 = w ∧ Le [3, 6] W25 W40 ∧ l = [j31, j32] ∧ Rd W40 [0] [v34] y33 ∧ Rd W40 [0] [v37] y36 ∧ Bx W40 3 g3 [v34, v37] ∧ K41 y33 y36 = some r) ?_ ?_
   ·rintro _ _ σ ⟨y33, y36, j31, j32, v34, v37, W40, rfl, l40, rfl, r35, r38, b39, hm⟩
    rw [hK41] at hm
    exact rg (mi rfl (Lw.add rfl (Ni rfl ((agm) ⟨w64 (y9 + 1), y33, y36, j31, j32, v34, v37, W40, rfl, ((l19.j l25).j l40).w, rfl, r35, r38, b39, hm⟩))))
   ·refine Cw.block (sr (mv v0_ rfl (mi rfl ?_)))
    obtain ⟨u44, e45, hm⟩ := ob hm
    have s46 := h0.ul (a22.trans a27)
    refine Lw.r rfl (R.ix (α := Vm.Op) s46 e45 rfl rfl rfl) ?_
    obtain ⟨x47, c48, _, r49⟩ := (s46.at_ e45).cells
    obtain ⟨v50, rfl, r51⟩ := Op.split r49
    refine Lw.r rfl (R.lda c48 rfl rfl) (ca hm (fun _ => p176 (Op.rd (K := [0]) u44.Kind u44.Branch u44.Who u44.Path u44.To u44.At u44.Text r51)) fun z52 W54 hm l54 => ?_)
    have a55 := l54.o
    have b57 := (b18.up l25).up l54
    refine nl (cn hm (fun hm => ?_) fun hm => ?_)
    ·refine Cw.seq ?_
     obtain ⟨u63, e64, hm⟩ := ob hm
     obtain ⟨z73, e74, hm⟩ := ob hm
     refine Cw.par [[], [], [], [1, 2], [1, 2, 3], [0, 1, 2, 3, 4], [0, 1, 2, 3, 4, 5], [0, 1, 2, 3, 4, 5, 6], [0, 1, 2, 3, 4, 5, 6], [], [0, 1, 2, 3, 4, 5, 6, 7, 9], [0, 1, 2, 3, 4, 5, 6, 7, 8, 9, 10]] [[], [], [], [1, 2], [3], [0, 4], [5], [5, 6], [5, 6], [], [5, 7, 9], [8]] [[], [], [], [], [], [], [], [], [], [], [6], []] [[0], [1], [2], [3], [4], [5], [5, 6], [5, 7], [8], [9], [5, 9], [11]] [[], [], [], [], [0], [0], [], [], [], [6], [6], []] [0, 1, 2, 3, 4, 5, 6, 7, 8, 10, 11] [6] [fun vs W => (vs 0) = .agg [v13, v16].toArray, fun vs W => (vs 1) = v0_, fun vs W => (vs 2) = vI y9, fun vs W => (vs 3) = ptr ((slA v0_).add ((y9).toNat * Rp.sz (Vm.Op))), fun vs W => (vs 4) = .agg [vI u63.Kind, vS u63.Branch, vS u63.Who, vS u63.Path, vS u63.To, vI u63.At, (cellOf (vs 4) 6)].toArray ∧ Rd W [0] [(cellOf (vs 4) 6)] u63.Text, fun vs W => (vs 5) = .tuple [.agg [(cellOf (cellOf (vs 5) 0) 0), (cellOf (cellOf (vs 5) 0) 1)].toArray, vI z73.2].toArray ∧ Rd W [0] [(cellOf (cellOf (vs 5) 0) 0)] z73.1.Commits ∧ Rd W [0] [(cellOf (cellOf (vs 5) 0) 1)] z73.1.Heads, fun vs W => (vs 6) = .tuple [.agg [(cellOf (cellOf (vs 5) 0) 0), (cellOf (cellOf (vs 5) 0) 1)].toArray, vI z73.2].toArray, fun vs W => (vs 7) = .agg [(cellOf (cellOf (vs 5) 0) 0), (cellOf (cellOf (vs 5) 0) 1)].toArray, fun vs W => (vs 8) = vI z73.2, fun vs W => (vs 9) = ptr (bx (pg (vs 9))) ∧ Bx W 6 (pg (vs 9)) [.slice none 0 0, .slice none 0 0], fun vs W => (vs 9) = ptr (bx (pg (vs 9))) ∧ Bx W 6 (pg (vs 9)) [(cellOf (cellOf (vs 5) 0) 0), (cellOf (cellOf (vs 5) 0) 1)], fun vs W => (vs 11) = vI z73.2] [] mixed (by kernel_rfl) rfl AllF.nil ?_
     intro W89 l89
     have a90 := l89.o
     refine ⟨(Steps.cons ?_ (Steps.cons ?_ (Steps.cons ?_ (Steps.cons ?_ (Steps.cons ?_ (Steps.cons ?_ (Steps.cons ?_ (Steps.cons ?_ (Steps.cons ?_ (Steps.cons ?_ (Steps.cons ?_ (Steps.cons ?_ Steps.nil)))))))))))), (Sups.cons (fun vs vs' W W' _ hv l hd h => by (show (vs' 0) = .agg [v13, v16].toArray); rw [hv 0 (anyb rfl)]; exact h) (Sups.cons (fun vs vs' W W' _ hv l hd h => by (show (vs' 1) = v0_); rw [hv 1 (anyb rfl)]; exact h) (Sups.cons (fun vs vs' W W' _ hv l hd h => by (show (vs' 2) = vI y9); rw [hv 2 (anyb rfl)]; exact h) (Sups.cons (fun vs vs' W W' _ hv l hd h => by (show (vs' 3) = ptr ((slA v0_).add ((y9).toNat * Rp.sz (Vm.Op)))); rw [hv 3 (anyb rfl)]; exact h) (Sups.cons (fun vs vs' W W' _ hv l hd h => by (show (vs' 4) = .agg [vI u63.Kind, vS u63.Branch, vS u63.Who, vS u63.Path, vS u63.To, vI u63.At, (cellOf (vs' 4) 6)].toArray ∧ Rd W' [0] [(cellOf (vs' 4) 6)] u63.Text); rw [hv 4 (anyb rfl)]; exact ⟨h.1, h.2.up l (disj_sub hd (K := [0]) rfl)⟩) (Sups.cons (fun vs vs' W W' _ hv l hd h => by (show (vs' 5) = .tuple [.agg [(cellOf (cellOf (vs' 5) 0) 0), (cellOf (cellOf (vs' 5) 0) 1)].toArray, vI z73.2].toArray ∧ Rd W' [0] [(cellOf (cellOf (vs' 5) 0) 0)] z73.1.Commits ∧ Rd W' [0] [(cellOf (cellOf (vs' 5) 0) 1)] z73.1.Heads); rw [hv 5 (anyb rfl)]; exact ⟨h.1, h.2.1.up l (disj_sub hd (K := [0]) rfl), h.2.2.up l (disj_sub hd (K := [0]) rfl)⟩) (Sups.cons (fun vs vs' W W' _ hv l hd h => by (show (vs' 6) = .tuple [.agg [(cellOf (cellOf (vs' 5) 0) 0), (cellOf (cellOf (vs' 5) 0) 1)].toArray, vI z73.2].toArray); rw [hv 5 (anyb rfl), hv 6 (anyb rfl)]; exact h) (Sups.cons (fun vs vs' W W' _ hv l hd h => by (show (vs' 7) = .agg [(cellOf (cellOf (vs' 5) 0) 0), (cellOf (cellOf (vs' 5) 0) 1)].toArray); rw [hv 5 (anyb rfl), hv 7 (anyb rfl)]; exact h) (Sups.cons (fun vs vs' W W' _ hv l hd h => by (show (vs' 8) = vI z73.2); rw [hv 8 (anyb rfl)]; exact h) (Sups.cons (fun vs vs' W W' _ hv l hd h => by (show (vs' 9) = ptr (bx (pg (vs' 9))) ∧ Bx W' 6 (pg (vs' 9)) [.slice none 0 0, .slice none 0 0]); rw [hv 9 (anyb rfl)]; exact ⟨h.1, h.2.up l (disj_mem hd (c := 6) rfl)⟩) (Sups.cons (fun vs vs' W W' _ hv l hd h => by (show (vs' 9) = ptr (bx (pg (vs' 9))) ∧ Bx W' 6 (pg (vs' 9)) [(cellOf (cellOf (vs' 5) 0) 0), (cellOf (cellOf (vs' 5) 0) 1)]); rw [hv 5 (anyb rfl), hv 9 (anyb rfl)]; exact ⟨h.1, h.2.up l (disj_mem hd (c := 6) rfl)⟩) (Sups.cons (fun vs vs' W W' _ hv l hd h => by (show (vs' 11) = vI z73.2); rw [hv 11 (anyb rfl)]; exact h) Sups.nil)))))))))))), ?_⟩
     ·intro vs W lW hN
      obtain ⟨W93, hW93⟩ : ∃ X, X = W := ⟨W, rfl⟩
      subst hW93
      refine Tr.mono (Run.tr (R.lda (cs := [v13, v16]) ((b57.up l89).up lW rfl).cells rfl rfl)) ?_
      rintro _ _ ⟨hu, rfl⟩
      obtain rfl := hu.symm
      exact ⟨W93, rfl, Le.refl _ _, (show (.agg [v13, v16].toArray : Value) = .agg [v13, v16].toArray from rfl)⟩
     ·intro vs W lW hN
      obtain ⟨W97, hW97⟩ : ∃ X, X = W := ⟨W, rfl⟩
      subst hW97
      refine Tr.mono (Run.tr (R.mv (v := v0_) rfl)) ?_
      rintro _ _ ⟨hu, rfl⟩
      obtain rfl := hu.symm
      exact ⟨W97, rfl, Le.refl _ _, (show (v0_ : Value) = v0_ from rfl)⟩
     ·intro vs W lW hN
      obtain ⟨W101, hW101⟩ : ∃ X, X = W := ⟨W, rfl⟩
      subst hW101
      refine Tr.mono (Run.tr (R.mv (v := vI y9) rfl)) ?_
      rintro _ _ ⟨hu, rfl⟩
      obtain rfl := hu.symm
      exact ⟨W101, rfl, Le.refl _ _, (show (vI y9 : Value) = vI y9 from rfl)⟩
     ·intro vs W lW hN
      obtain ⟨W105, hW105⟩ : ∃ X, X = W := ⟨W, rfl⟩
      subst hW105
      have a106 := (((a22.trans a27).trans a55).trans a90).t lW rfl
      have e1_ : vs 1 = v0_ := (hN 1 (anyb rfl))
      obtain ⟨vs, rfl⟩ := up_eq e1_
      have e2_ : vs 2 = vI y9 := (hN 2 (anyb rfl))
      obtain ⟨vs, rfl⟩ := up_eq e2_
      refine Tr.mono (Run.tr (R.ix (α := Vm.Op) (h0.ul a106) e64 rfl rfl rfl)) ?_
      rintro _ _ ⟨hu, rfl⟩
      obtain rfl := hu.symm
      exact ⟨W105, rfl, Le.refl _ _, (show (ptr ((slA v0_).add ((y9).toNat * Rp.sz (Vm.Op))) : Value) = ptr ((slA v0_).add ((y9).toNat * Rp.sz (Vm.Op))) from rfl)⟩
     ·intro vs W lW hN
      obtain ⟨W110, hW110⟩ : ∃ X, X = W := ⟨W, rfl⟩
      subst hW110
      have a111 := (((a22.trans a27).trans a55).trans a90).t lW rfl
      have e3_ : vs 3 = ptr ((slA v0_).add ((y9).toNat * Rp.sz (Vm.Op))) := (hN 3 (anyb rfl))
      obtain ⟨vs, rfl⟩ := up_eq e3_
      obtain ⟨x115, c116, _, r117⟩ := ((h0.ul a111).at_ e64).cells
      obtain ⟨v118, rfl, r119⟩ := Op.split r117
      refine Tr.mono (Run.tr (R.lda c116 rfl rfl)) ?_
      rintro _ _ ⟨hu, rfl⟩
      obtain rfl := hu.symm
      exact ⟨W110, rfl, Le.refl _ _, (show (.agg [vI u63.Kind, vS u63.Branch, vS u63.Who, vS u63.Path, vS u63.To, vI u63.At, v118].toArray : Value) = .agg [vI u63.Kind, vS u63.Branch, vS u63.Who, vS u63.Path, vS u63.To, vI u63.At, v118].toArray ∧ Rd W110 [0] [v118] u63.Text from ⟨rfl, r119⟩)⟩
     ·intro vs W lW hN
      obtain ⟨W120, hW120⟩ : ∃ X, X = W := ⟨W, rfl⟩
      subst hW120
      have a121 := ((a27.trans a55).trans a90).t lW rfl
      have e0_ : vs 0 = .agg [v13, v16].toArray := (hN 0 (anyb rfl))
      obtain ⟨vs, rfl⟩ := up_eq e0_
      obtain ⟨pc4_6, e4_⟩ : ∃ pc4_6 : Value, vs 4 = .agg [vI u63.Kind, vS u63.Branch, vS u63.Who, vS u63.Path, vS u63.To, vI u63.At, pc4_6].toArray := ⟨_, (hN 4 (anyb rfl)).1⟩
      obtain ⟨vs, rfl⟩ := up_eq e4_
      have o124 : Rd W120 [0] [pc4_6] u63.Text := (hN 4 (anyb rfl)).2
      refine Tr.mono (T.call rfl (p177  (x0 := (Vm.Repo.mk y12 y15)) (Repo.rd (K := [0]) y12 y15 (r14.ul a121) (r17.ul a121)) (Op.rd (K := [0]) u63.Kind u63.Branch u63.Who u63.Path u63.To u63.At u63.Text o124) e74)) ?_
      rintro _ _ ⟨W127, rfl, l127, ⟨v0_0_127, v0_1_127, rfl, f127_0, f127_1⟩⟩
      have s128 := f127_0.sub (M := [0]) rfl
      have s129 := f127_1.sub (M := [0]) rfl
      exact ⟨W127, rfl, l127, (show (.tuple [.agg [v0_0_127, v0_1_127].toArray, vI z73.2].toArray : Value) = .tuple [.agg [v0_0_127, v0_1_127].toArray, vI z73.2].toArray ∧ Rd W127 [0] [v0_0_127] z73.1.Commits ∧ Rd W127 [0] [v0_1_127] z73.1.Heads from ⟨rfl, s128, s129⟩)⟩
     ·intro vs W lW hN
      obtain ⟨W133, hW133⟩ : ∃ X, X = W := ⟨W, rfl⟩
      subst hW133
      obtain ⟨pc5_0n0, pc5_0n1, e5_⟩ : ∃ pc5_0n0 pc5_0n1 : Value, vs 5 = .tuple [.agg [pc5_0n0, pc5_0n1].toArray, vI z73.2].toArray := ⟨_, _, (hN 5 (anyb rfl)).1⟩
      obtain ⟨vs, rfl⟩ := up_eq e5_
      have o137 : Rd W133 [0] [pc5_0n0] z73.1.Commits := (hN 5 (anyb rfl)).2.1
      have o138 : Rd W133 [0] [pc5_0n1] z73.1.Heads := (hN 5 (anyb rfl)).2.2
      refine Tr.mono (Run.tr (R.mv (v := .tuple [.agg [pc5_0n0, pc5_0n1].toArray, vI z73.2].toArray) rfl)) ?_
      rintro _ _ ⟨hu, rfl⟩
      obtain rfl := hu.symm
      exact ⟨W133, rfl, Le.refl _ _, (show (.tuple [.agg [pc5_0n0, pc5_0n1].toArray, vI z73.2].toArray : Value) = .tuple [.agg [pc5_0n0, pc5_0n1].toArray, vI z73.2].toArray from rfl)⟩
     ·intro vs W lW hN
      obtain ⟨W139, hW139⟩ : ∃ X, X = W := ⟨W, rfl⟩
      subst hW139
      obtain ⟨pc5_0n0, pc5_0n1, e5_⟩ : ∃ pc5_0n0 pc5_0n1 : Value, vs 5 = .tuple [.agg [pc5_0n0, pc5_0n1].toArray, vI z73.2].toArray := ⟨_, _, (hN 5 (anyb rfl)).1⟩
      obtain ⟨vs, rfl⟩ := up_eq e5_
      have o143 : Rd W139 [0] [pc5_0n0] z73.1.Commits := (hN 5 (anyb rfl)).2.1
      have o144 : Rd W139 [0] [pc5_0n1] z73.1.Heads := (hN 5 (anyb rfl)).2.2
      have e6_ : vs 6 = .tuple [.agg [pc5_0n0, pc5_0n1].toArray, vI z73.2].toArray := (hN 6 (anyb rfl))
      obtain ⟨vs, rfl⟩ := up_eq e6_
      refine Tr.mono (Run.tr (R.ext (vs := [.agg [pc5_0n0, pc5_0n1].toArray, vI z73.2]) (v := .agg [pc5_0n0, pc5_0n1].toArray) rfl rfl)) ?_
      rintro _ _ ⟨hu, rfl⟩
      obtain rfl := hu.symm
      exact ⟨W139, rfl, Le.refl _ _, (show (.agg [pc5_0n0, pc5_0n1].toArray : Value) = .agg [pc5_0n0, pc5_0n1].toArray from rfl)⟩
     ·intro vs W lW hN
      obtain ⟨W145, hW145⟩ : ∃ X, X = W := ⟨W, rfl⟩
      subst hW145
      obtain ⟨pc5_0n0, pc5_0n1, e5_⟩ : ∃ pc5_0n0 pc5_0n1 : Value, vs 5 = .tuple [.agg [pc5_0n0, pc5_0n1].toArray, vI z73.2].toArray := ⟨_, _, (hN 5 (anyb rfl)).1⟩
      obtain ⟨vs, rfl⟩ := up_eq e5_
      have o149 : Rd W145 [0] [pc5_0n0] z73.1.Commits := (hN 5 (anyb rfl)).2.1
      have o150 : Rd W145 [0] [pc5_0n1] z73.1.Heads := (hN 5 (anyb rfl)).2.2
      have e6_ : vs 6 = .tuple [.agg [pc5_0n0, pc5_0n1].toArray, vI z73.2].toArray := (hN 6 (anyb rfl))
      obtain ⟨vs, rfl⟩ := up_eq e6_
      refine Tr.mono (Run.tr (R.ext (vs := [.agg [pc5_0n0, pc5_0n1].toArray, vI z73.2]) (v := vI z73.2) rfl rfl)) ?_
      rintro _ _ ⟨hu, rfl⟩
      obtain rfl := hu.symm
      exact ⟨W145, rfl, Le.refl _ _, (show (vI z73.2 : Value) = vI z73.2 from rfl)⟩
     ·intro vs W lW hN
      obtain ⟨W151, hW151⟩ : ∃ X, X = W := ⟨W, rfl⟩
      subst hW151
      refine Tr.mono (T.alloc 6 (cs := [.slice none 0 0, .slice none 0 0]) rfl) ?_
      rintro _ _ ⟨g155, W155, rfl, rfl, l155, b155⟩
      exact ⟨W155, rfl, l155, (show (ptr (bx g155) : Value) = ptr (bx g155) ∧ Bx W155 6 g155 [.slice none 0 0, .slice none 0 0] from ⟨rfl, b155⟩)⟩
     ·intro vs W lW hN
      obtain ⟨W159, hW159⟩ : ∃ X, X = W := ⟨W, rfl⟩
      subst hW159
      obtain ⟨pc5_0n0, pc5_0n1, e5_⟩ : ∃ pc5_0n0 pc5_0n1 : Value, vs 5 = .tuple [.agg [pc5_0n0, pc5_0n1].toArray, vI z73.2].toArray := ⟨_, _, (hN 5 (anyb rfl)).1⟩
      obtain ⟨vs, rfl⟩ := up_eq e5_
      have o163 : Rd W159 [0] [pc5_0n0] z73.1.Commits := (hN 5 (anyb rfl)).2.1
      have o164 : Rd W159 [0] [pc5_0n1] z73.1.Heads := (hN 5 (anyb rfl)).2.2
      have e7_ : vs 7 = .agg [pc5_0n0, pc5_0n1].toArray := (hN 7 (anyb rfl))
      obtain ⟨vs, rfl⟩ := up_eq e7_
      obtain ⟨pg9, e9_⟩ : ∃ pg9, vs 9 = ptr (bx pg9) := ⟨_, ((hN 9 (anyb rfl))).1⟩
      obtain ⟨vs, rfl⟩ := up_eq e9_
      have o165 : Bx W159 6 pg9 [.slice none 0 0, .slice none 0 0] := (hN 9 (anyb rfl)).2
      refine Tr.mono (T.sta (vs := [pc5_0n0, pc5_0n1]) o165 rfl rfl (oc_cons o163.oc (oc_cons o164.oc oc_nil)) rfl rfl) ?_
      rintro _ _ ⟨W166, rfl, l166, b166⟩
      exact ⟨W166, rfl, l166, (show (ptr (bx pg9)) = ptr (bx pg9) ∧ Bx W166 6 pg9 [pc5_0n0, pc5_0n1] from ⟨rfl, b166⟩)⟩
     ·intro vs W lW hN
      obtain ⟨W170, hW170⟩ : ∃ X, X = W := ⟨W, rfl⟩
      subst hW170
      have e8_ : vs 8 = vI z73.2 := (hN 8 (anyb rfl))
      obtain ⟨vs, rfl⟩ := up_eq e8_
      refine Tr.mono (Run.tr (R.as (v := vI z73.2) rfl)) ?_
      rintro _ _ ⟨hu, rfl⟩
      obtain rfl := hu.symm
      exact ⟨W170, rfl, Le.refl _ _, (show (vI z73.2 : Value) = vI z73.2 from rfl)⟩
     ·intro vs W lW hN
      obtain ⟨W174, hW174⟩ : ∃ X, X = W := ⟨W, rfl⟩
      subst hW174
      obtain ⟨l174, hl174⟩ : ∃ x, x = lW := ⟨lW, rfl⟩
      have e0_ : vs 0 = .agg [v13, v16].toArray := (hN 0 (anyb rfl))
      obtain ⟨vs, rfl⟩ := up_eq e0_
      have e1_ : vs 1 = v0_ := (hN 1 (anyb rfl))
      obtain ⟨vs, rfl⟩ := up_eq e1_
      have e2_ : vs 2 = vI y9 := (hN 2 (anyb rfl))
      obtain ⟨vs, rfl⟩ := up_eq e2_
      have e3_ : vs 3 = ptr ((slA v0_).add ((y9).toNat * Rp.sz (Vm.Op))) := (hN 3 (anyb rfl))
      obtain ⟨vs, rfl⟩ := up_eq e3_
      obtain ⟨pc4_6, e4_⟩ : ∃ pc4_6 : Value, vs 4 = .agg [vI u63.Kind, vS u63.Branch, vS u63.Who, vS u63.Path, vS u63.To, vI u63.At, pc4_6].toArray := ⟨_, (hN 4 (anyb rfl)).1⟩
      obtain ⟨vs, rfl⟩ := up_eq e4_
      have o178 : Rd W174 [0] [pc4_6] u63.Text := (hN 4 (anyb rfl)).2
      obtain ⟨pc5_0n0, pc5_0n1, e5_⟩ : ∃ pc5_0n0 pc5_0n1 : Value, vs 5 = .tuple [.agg [pc5_0n0, pc5_0n1].toArray, vI z73.2].toArray := ⟨_, _, (hN 5 (anyb rfl)).1⟩
      obtain ⟨vs, rfl⟩ := up_eq e5_
      have o179 : Rd W174 [0] [pc5_0n0] z73.1.Commits := (hN 5 (anyb rfl)).2.1
      have o180 : Rd W174 [0] [pc5_0n1] z73.1.Heads := (hN 5 (anyb rfl)).2.2
      have e6_ : vs 6 = .tuple [.agg [pc5_0n0, pc5_0n1].toArray, vI z73.2].toArray := (hN 6 (anyb rfl))
      obtain ⟨vs, rfl⟩ := up_eq e6_
      have e7_ : vs 7 = .agg [pc5_0n0, pc5_0n1].toArray := (hN 7 (anyb rfl))
      obtain ⟨vs, rfl⟩ := up_eq e7_
      have e8_ : vs 8 = vI z73.2 := (hN 8 (anyb rfl))
      obtain ⟨vs, rfl⟩ := up_eq e8_
      obtain ⟨pg9, e9_⟩ : ∃ pg9, vs 9 = ptr (bx pg9) := ⟨_, (hN 10 (anyb rfl)).1⟩
      obtain ⟨vs, rfl⟩ := up_eq e9_
      have o181 : Bx W174 6 pg9 [pc5_0n0, pc5_0n1] := (hN 10 (anyb rfl)).2
      have e11_ : vs 11 = vI z73.2 := (hN 11 (anyb rfl))
      obtain ⟨vs, rfl⟩ := up_eq e11_
      refine rg (Lw.r rfl (R.lda (cs := [pc5_0n0, pc5_0n1]) o181.cells rfl rfl) (sta ((b57.up l89).up lW rfl) (oc_cons o179.oc (oc_cons o180.oc oc_nil)) fun W182 l182 b182 => ?_))
      have a183 := l182.s
      exact nl ((ag) ⟨z73.1.Commits, z73.1.Heads, ptr (bx pg9), vI z73.2, pc5_0n0, pc5_0n1, W182, rfl, (((l54.j l89).j l174).j l182).w, rfl, (o179.ul a183), (o180.ul a183), b182, hm⟩)
    ·exact sk ((ag) ⟨y12, y15, j10, j11, v13, v16, W54, rfl, l54.w, rfl, (r14.ul (a27.trans a55)), (r17.ul (a27.trans a55)), b57, hm⟩)
  ·refine Cw.exit ?_
   rw [hK20] at hm
   refine sr (la (b18.up l25) (sta ((((b1.up l3).up l6).up l19).up l25) (oc_cons r14.oc (oc_cons r17.oc oc_nil)) fun W190 l190 b190 => ?_))
   have a191 := l190.s
   refine nl ?_
   cases hm
   exact Cw.ret (retA1 rfl b190 (Res.mk ((a22.trans a27).trans a191) ⟨v13, v16, rfl, (r14.ul (a27.trans a191)), (r17.ul (a27.trans a191))⟩))
 ·refine rg (mi rfl (mv v0_ rfl (Lw.ln x0 (h0.ul a22) rfl (Lw.lt rfl (mb rfl (bs hm (fun hc196 hm => ?_) fun hc196 hm => ?_))))))
  ·exact wak 2 hc196 (mi rfl (Lw.lt rfl (Pb hc196 rfl (nl ((ag) ⟨decide ((y9 : Int) < (30 : Int)), W19, rfl, Le.refl _ _, rfl, hm⟩)))))
  ·exact psk 2 hc196 rfl (Pb hc196 rfl (nl ((ag) ⟨false, W19, rfl, Le.refl _ _, rfl, hm⟩)))
theorem p161 {x0 v0_ r} (h0 : Rd W K [v0_] x0) (hm : Vm.spec_RepoPlay x0 = some r) : Q1 161 [v0_] W [] fun W' v => ∃ u0_0 u0_1, v = .agg [u0_0, u0_1].toArray ∧ Rd W' (0 :: K) [u0_0] r.Commits ∧ Rd W' (0 :: K) [u0_1] r.Heads :=
 (c161 (h0.view _) hm).ad (fk 0) fun _ _ ⟨u0_0, u0_1, e, f0, f1⟩ => ⟨u0_0, u0_1, e, f0.back rfl, f1.back rfl⟩
theorem c135 {x0 g0_ v0_0_ r} (hB0 : Bx W0 2 g0_ [v0_0_, vI x0.p]) (h0_0 : Rd W0 [0] [v0_0_] x0.b) (hm : Vm.spec_l30Repo x0 = some r) : Q0 135 [ptr (bx g0_)] W0 fun Wf v => ∃ u0_0 u0_1, v = .agg [u0_0, u0_1].toArray ∧ OwS Wf [31] [] [u0_0] r.1.Commits ∧ OwS Wf [32] [] [u0_1] r.1.Heads ∧ Bx Wf 2 g0_ [v0_0_, vI r.2] := by
 unfold Vm.spec_l30Repo at hm
 refine CallR.of Tryz.func135 rfl rfl rfl rfl (sr (al 3 [.slice none 0 0, .slice none 0 0] fun g1 W1 l1 b1 => ?_))
 have a2 := l1.o
 have b3 := hB0.up l1
 refine nl (sr (mp rfl (cr hm (fun _ => p162 (k0 := 4) (c0 := 2) (x0 := x0) b3 (h0_0.ul a2) rfl) ?_)))
 rintro z5 v0_7 W7 hm l7 ⟨_, rfl, f7_0, f7_1⟩
 have a8 := a2.t l7
 refine cr hm (fun _ => p161 (K := [4]) f7_0.rd) ?_
 rintro z10 _ W12 hm l12 ⟨v0_0_12, v0_1_12, rfl, f12_0, f12_1⟩
 have s13 := f12_0.sub (M := [0, 4]) rfl
 have s14 := f12_1.sub (M := [0, 4]) rfl
 have a15 := a8.n l12
 refine cr hm (fun _ => p75 (K := [0, 4]) (k0 := 5) (k1 := 6) (Repo.rd (K := [0, 4]) z10.Commits z10.Heads s13 s14)) ?_
 rintro z19 _ W21 hm l21 ⟨v0_0_21, v0_1_21, rfl, f21_0, f21_1⟩
 have a22 := a15.n l21
 refine sta (((b1.up l7).up l12).up l21) (oc_cons f21_0.oc (oc_cons f21_1.oc oc_nil)) fun W26 l26 b26 => ?_
 have a27 := a22.t l26
 refine nl ?_
 obtain ⟨W32, ew32, l32, o32⟩ := (f21_0.up l26).dyeO 31
 have a33 := a27.t l32
 obtain ⟨W38, ew38, l38, o38⟩ := ((f21_1.up l26).up l32).dyeO 32
 have a39 := a33.t l38
 cases hm
 rw [← ew38.trans (ew32)]
 exact Cw.ret (retA1 rfl ((b26.up l32).up l38) (Res.mk a39 ⟨v0_0_21, v0_1_21, rfl, (o32.up l38).s, o38.s, (((((f7_1.up l12).up l21).up l26).up l32).up l38)⟩))
theorem p135 {x0 g0_ v0_0_ k0 k1 c0 r} (hB0 : Bx W c0 g0_ [v0_0_, vI x0.p]) (h0_0 : Rd W K [v0_0_] x0.b) (hJ : okJ K [c0] = true) (hm : Vm.spec_l30Repo x0 = some r) : Q1 135 [ptr (bx g0_)] W [c0] fun W' v => ∃ u0_0 u0_1, v = .agg [u0_0, u0_1].toArray ∧ Ow W' k0 [] [u0_0] r.1.Commits ∧ Ow W' k1 [] [u0_1] r.1.Heads ∧ Bx W' c0 g0_ [v0_0_, vI r.2] :=
 CallR.adJ (J := [c0]) (fun c => bif Nat.beq c 0 then 0 else bif Nat.beq c 2 then c0 else bif Nat.beq c 31 then k0 else bif Nat.beq c 32 then k1 else 0) (c135 (hB0.viewJ 0 hJ) (h0_0.view _) hm) fun _ _ ⟨u0_0, u0_1, e, f0, f1, f2⟩ => ⟨u0_0, u0_1, e, f0.one1.backN rfl, f1.one1.backN rfl, Bx.backJ 0 f2 rfl⟩
end Go.Sx
