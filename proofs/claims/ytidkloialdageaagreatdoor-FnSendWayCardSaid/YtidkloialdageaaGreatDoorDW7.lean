/- Walks: each function answers as its model, printed by a program of ours. Conditions: the arguments read as they are given. -/
import Derived.Test.YtidkloialdageaaGreatDoorDTs
import Derived.Test.YtidkloialdageaaGreatDoorDM0
import Derived.Test.YtidkloialdageaaGreatDoorDW6
namespace Go.Sx
open Go Go.Proofs Go.Vm Rp
set_option linter.unusedVariables false
set_option linter.unusedSimpArgs false
variable {W W0 : CW} {K : List Nat}
theorem c24 {x0 v0_ x1 v1_ r} (h0 : Rd W0 [0] [v0_] x0) (h1 : Rd W0 [0] [v1_] x1) (hm : Vm.laws_smInts x0 x1 = some r) : Q0 24 [v0_, v1_] W0 fun Wf v => v = vB r := by
 unfold Vm.laws_smInts at hm
 refine CallR.of Tryz.func24 rfl rfl rfl rfl (sr (Nb rfl (ssr (mv v0_ rfl (Lw.ln x0 h0 rfl (mv v1_ rfl (Lw.ln x1 h1 rfl (Lw.ne rfl (nl (cn hm (fun hm => ?_) fun hm => ?_))))))))))
 ·exact sr (Nb rfl (.ret (rt hm (Le.refl _ _))))
 ·refine sk (ssr (Ni rfl (Cw.block ?_)))
  obtain ⟨K5, hK5, hm⟩ := jn_e hm
  refine Cw.loop 11 25 [4, 5] (fun m l w => ∃ y2 y3 W4, CW.w W4 = w ∧ Le [] W0 W4 ∧ l = [vB y2, vI y3] ∧ Vm.laws_smInts_l1 x0 x1 K5 m y2 y3 = some r) _ ⟨false, 0, W0, rfl, Le.refl _ _, rfl, hm⟩ ?_
  rintro (_ | m6) _ _ σ ⟨y2, y3, W4, rfl, l4, rfl, hm⟩
  ·cases hm
  unfold Vm.laws_smInts_l1 at hm
  have a7 := l4.o
  refine ssr (mi rfl (mv v0_ rfl (Lw.ln x0 (h0.ul a7) rfl (Lw.lt rfl (nl (cn hm (fun hm => ?_) fun hm => ?_))))))
  ·refine sk (Cw.seq (Cw.block (Cw.seq (Cw.draw [] [(0, 0), (1, 0), (2, 0), (3, 1), (4, 0), (5, 0), (6, 0), (7, 1), (8, 0)] mixed (by kernel_rfl) fun W10 l10 => ?_))))
   have a11 := a7.n l10
   refine Dv v0_ rfl (Di rfl ?_)
   obtain ⟨u12, e13, hm⟩ := ob hm
   refine Mw.p rfl rfl (fun _ => R.ix (α := Int) (h0.ul a11) e13 rfl rfl rfl) (Mw.q rfl rfl (fun _ c => R.ld rfl rfl (cl_cell ((h0.ul a11).at_ e13).1 rfl ((h0.ul a11).at_ e13).int c)) (Dv v1_ rfl (Di rfl ?_)))
   obtain ⟨u15, e16, hm⟩ := ob hm
   refine Mw.p rfl rfl (fun _ => R.ix (α := Int) (h1.ul a11) e16 rfl rfl rfl) (Mw.q rfl rfl (fun _ c => R.ld rfl rfl (cl_cell ((h1.ul a11).at_ e16).1 rfl ((h1.ul a11).at_ e16).int c)) (Mw.p rfl rfl (fun _ => R.ne rfl rfl) (Mw.nil (cn hm (fun hm => ?_) fun hm => ?_))))
   ·exact sr (Nb rfl (.ret (rt hm a11)))
   ·exact sk (rg (mi rfl (Lw.add rfl (Ni rfl ((agm) ⟨y2, w64 (y3 + 1), W10, rfl, (l4.j l10).w, rfl, hm⟩)))))
  ·refine Cw.exit ?_
   rw [hK5] at hm
   exact sr (Nb rfl (.ret (rt hm a7)))
theorem p24 {x0 v0_ x1 v1_ r} (h0 : Rd W K [v0_] x0) (h1 : Rd W K [v1_] x1) (hm : Vm.laws_smInts x0 x1 = some r) : Q1 24 [v0_, v1_] W [] fun W' v => v = vB r :=
 (c24 (h0.view _) (h1.view _) hm).ad (fk 0) fun _ _ e => e
theorem c124 {x0 v0_0_ v0_1_ r} (h0 : Rd W0 [0] [v0_0_, v0_1_] x0) (hm : Vm.impl_Repo_live x0 = some r) : Q0 124 [.agg [v0_0_, v0_1_].toArray] W0 fun Wf v => ∃ u0, v = u0 ∧ OwS Wf LL [] [u0] r := by
 unfold Vm.impl_Repo_live at hm
 obtain ⟨w0_0, w0_1, he0, h0_0, h0_1⟩ := Repo.split h0
 simp only [List.cons.injEq, and_true, true_and] at he0
 obtain ⟨rfl, rfl⟩ := he0
 refine CallR.of Tryz.func124 rfl rfl rfl rfl (sr (bo 2 rfl fun g1 W1 l1 b1 => ?_))
 have a2 := l1.o
 refine Nv (.slice none 0 0) rfl (sr (fl b1 rfl (Lw.ln x0.Commits (h0_0.ul a2) rfl ?_)))
 obtain ⟨q4, e5, hm⟩ := ob hm
 refine Lw.t rfl (T.mk (α := Bool) 3 [] (n := (x0.Commits.length : Int)) rfl rfl e5) ?_
 rintro v6 _ ⟨W6, rfl, l6, o6⟩
 have a7 := a2.n l6
 refine Nv v6 rfl (ssr (fl (b1.up l6) rfl (Lw.ln x0.Heads (h0_1.ul a7) rfl (mi rfl (nl (Cw.block ?_))))))
 obtain ⟨K16, hK16, hm⟩ := jn_e hm
 refine Cw.loop 15 33 [5, 7, 15] (fun m l w => ∃ y12 y13 j10 j11 W15, CW.w W15 = w ∧ Le [3, 4] W6 W15 ∧ l = [j10, j11, vI y12] ∧ Ow W15 3 [] [v6] y13 ∧ Vm.impl_Repo_live_l1 x0 K16 m y12 y13 = some r) _ ⟨0, q4, undef, undef, W6, rfl, Le.refl _ _, rfl, o6, hm⟩ ?_
 rintro (_ | m17) _ _ σ ⟨y12, y13, j10, j11, W15, rfl, l15, rfl, o14, hm⟩
 ·cases hm
 unfold Vm.impl_Repo_live_l1 at hm
 have a18 := a7.t l15
 refine sr (Lw.lt rfl (nl (Cw.seq (cn hm (fun hm => ?_) fun hm => ?_))))
 ·refine sk (Cw.seq (Cw.block (sr ?_)))
  obtain ⟨u21, e22, hm⟩ := ob hm
  refine Lw.r rfl (R.ix (α := Head) (h0_1.ul a18) e22 rfl rfl rfl) ?_
  obtain ⟨x24, c25, _, r26⟩ := ((h0_1.ul a18).at_ e22).cells
  obtain rfl := Head.split r26
  refine Lw.r rfl (R.lda c25 rfl rfl) (al 4 [vS ([] : Str), vI 0] fun g27 W27 l27 b27 => ?_)
  have a28 := a18.n l27
  refine sta b27 (oc_cons rfl (oc_cons rfl oc_nil)) fun W31 l31 b31 => ?_
  have a32 := a28.t l31
  refine nl (sr (la ((((b1.up l6).up l15).up l27).up l31) (fl b31 rfl (cr hm (fun _ => p109 (k0 := 5) (Repo.rd (K := [0]) x0.Commits x0.Heads (h0_0.ul a32) (h0_1.ul a32))) ?_))))
  rintro z37 v0_39 W39 hm l39 ⟨_, rfl, f39_0⟩
  refine cr hm (fun _ => p108 (K := [5]) (k0 := 6) f39_0.rd) ?_
  rintro z44 v0_46 W46 hm l46 ⟨_, rfl, f46_0⟩
  refine Lw.ln z44 f46_0.rd rfl (mi rfl (nl (Cw.block ?_)))
  obtain ⟨K57, hK57, hm⟩ := jn_e hm
  refine Cw.loop 25 32 [7, 25] (fun m l w => ∃ y53 y54 j52 W56, CW.w W56 = w ∧ Le [3] W46 W56 ∧ l = [j52, vI y53] ∧ Ow W56 3 [] [v6] y54 ∧ Vm.impl_Repo_live_l2 z44 K57 m y53 y54 = some r) _ ⟨0, y13, j11, W46, rfl, Le.refl _ _, rfl, ((((o14.up l27).up l31).up l39).up l46), hm⟩ ?_
  rintro (_ | m58) _ _ σ ⟨y53, y54, j52, W56, rfl, l56, rfl, o55, hm⟩
  ·cases hm
  unfold Vm.impl_Repo_live_l2 at hm
  refine sr (Lw.lt rfl (nl (Cw.seq (cn hm (fun hm => ?_) fun hm => ?_))))
  ·refine sk (Cw.seq (Cw.block (sr ?_)))
   obtain ⟨u65, e66, hm⟩ := ob hm
   refine Lw.r rfl (R.ix (α := Int) (f46_0.up l56).rd e66 rfl rfl rfl) (Lw.r rfl (R.ld rfl rfl ((f46_0.up l56).rd.at_ e66).int) (Ni rfl (rg (mv v6 rfl (mi rfl ?_)))))
   obtain ⟨u67, e68, hm⟩ := ob hm
   refine Lw.r rfl (R.ix (α := Bool) o55.rd e68 rfl rfl rfl) ?_
   obtain ⟨q70, e71, hm⟩ := ob hm
   refine Lw.u (T.stS (K' := []) o55 (rdB _) e71 rfl rfl rfl) ?_
   rintro _ _ ⟨W69, rfl, l69, o69⟩
   exact nl (rg (Lw.add rfl (mi rfl (nl ((agm) ⟨w64 (y53 + 1), q70, vI u65, W69, rfl, (l56.j l69).w, rfl, o69, hm⟩)))))
  ·refine Cw.exit ?_
   rw [hK57] at hm
   exact rg (Lw.add rfl (mi rfl (nl ((agm) ⟨w64 (y12 + 1), y54, ptr (bx g27), j52, W56, rfl, (((((l15.j l27).j l31).j l39).j l46).j l56).w, rfl, o55, hm⟩))))
 ·refine Cw.exit ?_
  rw [hK16] at hm
  refine sr (mv v6 rfl (Nv v6 rfl ?_))
  cases hm
  exact Cw.ret (ret1 rfl (Res.mk a18 ⟨v6, rfl, o14.s.sub rfl rfl⟩))
theorem p124 {x0 v0_0_ v0_1_ k0 r} (h0 : Rd W K [v0_0_, v0_1_] x0) (hm : Vm.impl_Repo_live x0 = some r) : Q1 124 [.agg [v0_0_, v0_1_].toArray] W [] fun W' v => ∃ u0, v = u0 ∧ Ow W' k0 [] [u0] r :=
 (c124 (h0.view _) hm).ad (fk k0) fun _ _ ⟨u0, e, f0⟩ => ⟨u0, e, f0.back (fk_LL _)⟩
theorem c115 {x0 v0_0_ v0_1_ x1 r} (h0 : Rd W0 [0] [v0_0_, v0_1_] x0) (hm : Vm.impl_Repo_tree x0 x1 = some r) : Q0 115 [.agg [v0_0_, v0_1_].toArray, vI x1] W0 fun Wf v => ∃ u0, v = u0 ∧ Rd Wf [0] [u0] r := by
 unfold Vm.impl_Repo_tree at hm
 obtain ⟨w0_0, w0_1, he0, h0_0, h0_1⟩ := Repo.split h0
 simp only [List.cons.injEq, and_true, true_and] at he0
 obtain ⟨rfl, rfl⟩ := he0
 refine CallR.of Tryz.func115 rfl rfl rfl rfl (sr (bo 2 rfl fun g1 W1 l1 b1 => ?_))
 have a2 := l1.o
 refine Nv (.slice none 0 0) rfl (ssr (mi rfl (Lw.lt rfl (nl (cn hm (fun hm => ?_) fun hm => ?_)))))
 ·refine sr (Nv (.slice none 0 0) rfl ?_)
  cases hm
  exact Cw.ret (ret1 rfl (Res.mk a2 ⟨.slice none 0 0, rfl, (rdN (K := [0]))⟩))
 ·refine sk (sr (fl b1 rfl (mi rfl ?_)))
  obtain ⟨u4, e5, hm⟩ := ob hm
  refine Lw.r rfl (R.ix (α := Commit) (h0_0.ul a2) e5 rfl rfl rfl) (Lw.fa rfl ?_)
  obtain ⟨v7, c8, r9⟩ := (Commit.at2 ((h0_0.ul a2).at_ e5)).cell rfl
  refine Lw.r rfl (R.ld rfl rfl c8) (Nv v7 rfl ?_)
  cases hm
  exact Cw.ret (ret1 rfl (Res.mk a2 ⟨v7, rfl, r9⟩))
theorem p115 {x0 v0_0_ v0_1_ x1 r} (h0 : Rd W K [v0_0_, v0_1_] x0) (hm : Vm.impl_Repo_tree x0 x1 = some r) : Q1 115 [.agg [v0_0_, v0_1_].toArray, vI x1] W [] fun W' v => ∃ u0, v = u0 ∧ Rd W' (0 :: K) [u0] r :=
 (c115 (h0.view _) hm).ad (fk 0) fun _ _ ⟨u0, e, f0⟩ => ⟨u0, e, f0.back rfl⟩
theorem c97 {x0 v0_ r} (h0 : Rd W0 [0] [v0_] x0) (hm : Vm.impl_copyText x0 = some r) : Q0 97 [v0_] W0 fun Wf v => ∃ u0, v = u0 ∧ OwS Wf LL [] [u0] r := by
 unfold Vm.impl_copyText at hm
 refine CallR.of Tryz.func97 rfl rfl rfl rfl (sr (Nv (.slice none 0 0) rfl (sr (Lw.t rfl (T.lit0 (α := Str) 2 []) ?_))))
 rintro v1 _ ⟨W1, rfl, l1, o1⟩
 have a2 := l1.o
 refine mv v0_ rfl ?_
 obtain ⟨q3, e4, hm⟩ := ob hm
 refine Lw.t rfl (T.appP (α := Str) o1 (h0.ul a2) rfl rfl e4) ?_
 rintro v5 _ ⟨W5, rfl, l5, o5⟩
 have a7 := a2.t l5
 refine Nv v5 rfl ?_
 cases hm
 exact Cw.ret (ret1 rfl (Res.mk a7 ⟨v5, rfl, o5.s.sub rfl rfl⟩))
theorem p97 {x0 v0_ k0 r} (h0 : Rd W K [v0_] x0) (hm : Vm.impl_copyText x0 = some r) : Q1 97 [v0_] W [] fun W' v => ∃ u0, v = u0 ∧ Ow W' k0 [] [u0] r :=
 (c97 (h0.view _) hm).ad (fk k0) fun _ _ ⟨u0, e, f0⟩ => ⟨u0, e, f0.back (fk_LL _)⟩
theorem c114 {x0 v0_ r} (h0 : Rd W0 [0] [v0_] x0) (hm : Vm.impl_copyTree x0 = some r) : Q0 114 [v0_] W0 fun Wf v => ∃ u0, v = u0 ∧ OwS Wf LL [] [u0] r := by
 unfold Vm.impl_copyTree at hm
 refine CallR.of Tryz.func114 rfl rfl rfl rfl (sr (Nv (.slice none 0 0) rfl (sr (Nv (.slice none 0 0) rfl (ssr (mv v0_ rfl (Lw.ln x0 h0 rfl (mi rfl (nl (Cw.block ?_))))))))))
 obtain ⟨K7, hK7, hm⟩ := jn_e hm
 refine Cw.loop 8 21 [3, 5, 8] (fun m l w => ∃ y1 y5 v2 j4 W6, CW.w W6 = w ∧ Le [2, 3, 4] W0 W6 ∧ l = [v2, j4, vI y5] ∧ Ow W6 2 [] [v2] y1 ∧ Vm.impl_copyTree_l1 x0 K7 m y1 y5 = some r) _ ⟨([] : List File), 0, .slice none 0 0, undef, W0, rfl, Le.refl _ _, rfl, owN 2 [], hm⟩ ?_
 rintro (_ | m8) _ _ σ ⟨y1, y5, v2, j4, W6, rfl, l6, rfl, o3, hm⟩
 ·cases hm
 unfold Vm.impl_copyTree_l1 at hm
 have a9 := l6.s
 refine sr (Lw.lt rfl (nl (Cw.seq (cn hm (fun hm => ?_) fun hm => ?_))))
 ·refine sk (Cw.seq (Cw.block (sr ?_)))
  obtain ⟨u11, e12, hm⟩ := ob hm
  refine Lw.r rfl (R.ix (α := File) (h0.ul a9) e12 rfl rfl rfl) ?_
  obtain ⟨x14, c15, _, r16⟩ := ((h0.ul a9).at_ e12).cells
  obtain ⟨v17, rfl, r18⟩ := File.split r16
  refine Lw.r rfl (R.lda c15 rfl rfl) (al 3 [vS ([] : Str), .slice none 0 0] fun g19 W19 l19 b19 => ?_)
  have a20 := l19.o
  refine sta b19 (oc_cons rfl (oc_cons r18.oc oc_nil)) fun W22 l22 b22 => ?_
  have a23 := a20.t l22
  refine nl (Cw.draw [2, 4] [(0, 0), (1, 0), (2, 1), (3, 0), (4, 1), (5, 2), (6, 0), (7, 2), (8, 2), (9, 0)] mixed (by kernel_rfl) fun W25 l25 => ?_)
  have a26 := a23.n l25
  refine Dv v2 rfl (Dfl (b22.up l25) rfl rfl rfl (Dfl (b22.up l25) rfl rfl rfl (Dc hm (Le.refl _ _) (fun _ => p97 (k0 := 4) (r18.ul a26)) rfl ?_)))
  rintro z30 v0_32 W32 hm l32 ⟨_, rfl, f32_0⟩ d32
  refine Mw.p rfl rfl (fun _ => R.bd (zs := [vS ([] : Str), .slice none 0 0]) (cs := [vS u11.Path, v0_32]) [(0, vS u11.Path), (1, v0_32)] rfl rfl rfl (bp_cons rfl rfl (bp_cons f32_0.oc rfl bp_nil))) (Mw.t rfl rfl (T.bs 5 [.agg [vS u11.Path, v0_32].toArray] (cs := [vS u11.Path, v0_32]) rfl rfl (bsA rfl)) ?_)
  rintro _ _ ⟨g36, W36, rfl, rfl, l36, b36⟩
  refine mc d32 l36 fun d36 => ?_
  obtain ⟨q41, e42, hm⟩ := ob hm
  refine Mw.t rfl rfl (T.app1 (α := File) (J := [4]) (K' := []) (((((o3.up l19).up l22).up l25).up l32).up l36) b36 (File.own u11.Path z30 (f32_0.up l36).s) rfl rfl e42) ?_
  rintro v43 _ ⟨W43, rfl, l43, o43⟩
  exact mc d36 l43 fun d43 => Hv v43 rfl (Mw.nil (rg (Lw.add rfl (mi rfl (nl ((agm) ⟨q41, w64 (y5 + 1), v43, ptr (bx g19), W43, rfl, ((((((l6.j l19).j l22).j l25).j l32).j l36).j l43).w, rfl, o43, hm⟩))))))
 ·refine Cw.exit ?_
  rw [hK7] at hm
  refine sr (mv v2 rfl (Nv v2 rfl ?_))
  cases hm
  exact Cw.ret (ret1 rfl (Res.mk a9 ⟨v2, rfl, o3.s.sub rfl rfl⟩))
theorem p114 {x0 v0_ k0 r} (h0 : Rd W K [v0_] x0) (hm : Vm.impl_copyTree x0 = some r) : Q1 114 [v0_] W [] fun W' v => ∃ u0, v = u0 ∧ Ow W' k0 [] [u0] r :=
 (c114 (h0.view _) hm).ad (fk k0) fun _ _ ⟨u0, e, f0⟩ => ⟨u0, e, f0.back (fk_LL _)⟩
theorem c54 {x0 v0_0_ v0_1_ r} (h0 : Rd W0 [0] [v0_0_, v0_1_] x0) (h99 : Gl 0 W0 [0]) (hm : Vm.impl_KeepOnly x0 = some r) : Q0 54 [.agg [v0_0_, v0_1_].toArray] W0 fun Wf v => ∃ u0_0 u0_1, v = .agg [u0_0, u0_1].toArray ∧ OwS Wf [31] [] [u0_0] r.Commits ∧ OwS Wf [32] [] [u0_1] r.Heads := by
 unfold Vm.impl_KeepOnly at hm
 obtain ⟨w0_0, w0_1, he0, h0_0, h0_1⟩ := Repo.split h0
 simp only [List.cons.injEq, and_true, true_and] at he0
 obtain ⟨rfl, rfl⟩ := he0
 refine CallR.of Tryz.func54 rfl rfl rfl rfl (sr (bo 2 rfl fun g1 W1 l1 b1 => ?_))
 have a2 := l1.o
 refine al 3 [.slice none 0 0, .slice none 0 0] fun g3 W3 l3 b3 => ?_
 have a4 := a2.n l3
 refine nl (ssr (la (b1.up l3) (ca hm (fun _ => p19 (Repo.rd (K := [0]) x0.Commits x0.Heads (h0_0.ul a4) (h0_1.ul a4)) (h99.ul a4)) fun z9 W11 hm l11 => ?_)))
 have a12 := a4.n l11
 have b13 := (b1.up l3).up l11
 refine Lw.r rfl (R.not rfl) (nl (cn hm (fun hm => ?_) fun hm => ?_))
 ·refine sr (Lw.r rfl (R.bd (zs := [.slice none 0 0, .slice none 0 0]) (cs := [.slice none 0 0, .slice none 0 0]) [] rfl rfl rfl bp_nil) (sta (b3.up l11) (oc_cons rfl (oc_cons rfl oc_nil)) fun W16 l16 b16 => ?_))
  have a17 := a12.t l16
  refine nl ?_
  cases hm
  exact Cw.ret (retA1 rfl b16 (Res.mk a17 ⟨.slice none 0 0, .slice none 0 0, rfl, (owsN []).sub rfl rfl, (owsN []).sub rfl rfl⟩))
 ·refine sk (sr (fl b13 rfl (Lw.ln x0.Commits (h0_0.ul a12) rfl ?_)))
  obtain ⟨q20, e21, hm⟩ := ob hm
  refine Lw.t rfl (T.mk (α := Int) 4 [] (n := (x0.Commits.length : Int)) rfl rfl e21) ?_
  rintro v22 _ ⟨W22, rfl, l22, o22⟩
  have a23 := a12.n l22
  refine Nv v22 rfl (sr (al 5 [.slice none 0 0, .slice none 0 0] fun g26 W26 l26 b26 => ?_))
  have a27 := a23.n l26
  have b29 := (b13.up l22).up l26
  refine nl (ssr (la b29 (cr hm (fun _ => p124 (k0 := 6) (Repo.rd (K := [0]) x0.Commits x0.Heads (h0_0.ul a27) (h0_1.ul a27))) ?_)))
  rintro z33 v0_35 W35 hm l35 ⟨_, rfl, f35_0⟩
  have a36 := a27.n l35
  refine cr hm (fun _ => p108 (K := [6]) (k0 := 7) f35_0.rd) ?_
  rintro z41 v0_43 W43 hm l43 ⟨_, rfl, f43_0⟩
  have a44 := a36.n l43
  refine Lw.ln z41 f43_0.rd rfl (mi rfl (nl (Cw.block ?_)))
  obtain ⟨K64, hK64, hm⟩ := jn_e hm
  refine Cw.loop 24 72 [6, 7, 9, 24] (fun m l w => ∃ y53 y54 y57 y61 j50 j51 j52 v55 v58 W63, CW.w W63 = w ∧ Le [4, 5, 8, 10, 11, 12] W43 W63 ∧ l = [j50, j51, j52, vI y53] ∧ Ow W63 8 [] [v55] y54 ∧ Ow W63 9 [] [v58] y57 ∧ Bx W63 5 g26 [v55, v58] ∧ Ow W63 4 [] [v22] y61 ∧ Vm.impl_KeepOnly_l1 x0 z41 K64 m y53 y54 y57 y61 = some r) _ ⟨0, ([] : List Commit), ([] : List Head), q20, undef, undef, undef, .slice none 0 0, .slice none 0 0, W43, rfl, Le.refl _ _, rfl, owN 8 [], owN 9 [], ((b26.up l35).up l43), (((o22.up l26).up l35).up l43), hm⟩ ?_
  rintro (_ | m65) _ _ σ ⟨y53, y54, y57, y61, j50, j51, j52, v55, v58, W63, rfl, l63, rfl, o56, o59, b60, o62, hm⟩
  ·cases hm
  unfold Vm.impl_KeepOnly_l1 at hm
  have a66 := a44.t l63
  have b69 := ((b29.up l35).up l43).up l63
  refine sr (Lw.lt rfl (nl (Cw.seq (cn hm (fun hm => ?_) fun hm => ?_))))
  ·refine sk (Cw.seq (Cw.block (sr ?_)))
   obtain ⟨u72, e73, hm⟩ := ob hm
   refine Lw.r rfl (R.ix (α := Int) (f43_0.up l63).rd e73 rfl rfl rfl) (Lw.r rfl (R.ld rfl rfl ((f43_0.up l63).rd.at_ e73).int) (Ni rfl (sr (mv v22 rfl (mi rfl (fl b60 rfl (Lw.ln y54 o56.rd rfl ?_)))))))
   obtain ⟨u74, e75, hm⟩ := ob hm
   refine Lw.r rfl (R.ix (α := Int) o62.rd e75 rfl rfl rfl) ?_
   obtain ⟨q77, e78, hm⟩ := ob hm
   refine Lw.u (T.stS (K' := []) o62 (rdI _) e78 rfl rfl rfl) ?_
   rintro _ _ ⟨W76, rfl, l76, o76⟩
   have a79 := a66.t l76
   refine nl (Cw.seq ?_)
   obtain ⟨u97, e98, hm⟩ := ob hm
   obtain ⟨z101, e102, hm⟩ := ob hm
   obtain ⟨z114, e115, hm⟩ := ob hm
   refine Cw.par [[], [0], [], [0, 1, 2], [0, 1, 2, 3], [0, 1, 2, 3, 4], [], [], [6, 7], [6, 7, 8], [0, 1, 2, 3, 4, 5, 6, 7, 8, 9], [], [0, 1, 2, 3, 4, 5, 6, 7, 8, 9, 10, 11]] [[], [0], [], [1, 2], [3], [4], [], [], [6, 7], [8], [5, 9], [], [9, 10, 11]] [[], [], [], [], [], [], [], [], [], [], [], [], [11]] [[0], [1], [2], [3], [4], [5], [6], [7], [8], [9], [9, 10], [11], [9, 11]] [[], [], [], [], [], [], [], [], [0], [10], [], [11], [11]] [0, 1, 2, 3, 4, 5, 6, 7, 8, 9, 10, 12] [11] [fun vs W => (vs 0) = ptr ((bx g1).add 0), fun vs W => (vs 1) = v0_0_, fun vs W => (vs 2) = vI u72, fun vs W => (vs 3) = ptr ((slA v0_0_).add ((u72).toNat * Rp.sz (Commit))), fun vs W => (vs 4) = ptr (((slA v0_0_).add ((u72).toNat * Rp.sz (Commit))).add 1), fun vs W => (vs 5) = vS u97.Who, fun vs W => (vs 6) = .agg [v0_0_, v0_1_].toArray, fun vs W => (vs 7) = vI u72, fun vs W => Rd W [0] [(vs 8)] z101, fun vs W => Ow W 10 [] [(vs 9)] z114, fun vs W => (vs 10) = .agg [.slice none 0 0, vS u97.Who, (vs 9)].toArray, fun vs W => (vs 11) = ptr (bx (pg (vs 11))) ∧ Bx W 11 (pg (vs 11)) [.slice none 0 0, vS ([] : Str), .slice none 0 0], fun vs W => (vs 11) = ptr (bx (pg (vs 11))) ∧ Bx W 11 (pg (vs 11)) [.slice none 0 0, vS u97.Who, (vs 9)]] [] mixed (by kernel_rfl) rfl AllF.nil ?_
   intro W148 l148
   have a149 := a79.n l148
   have b155 := (b69.up l76).up l148
   refine ⟨(Steps.cons ?_ (Steps.cons ?_ (Steps.cons ?_ (Steps.cons ?_ (Steps.cons ?_ (Steps.cons ?_ (Steps.cons ?_ (Steps.cons ?_ (Steps.cons ?_ (Steps.cons ?_ (Steps.cons ?_ (Steps.cons ?_ (Steps.cons ?_ Steps.nil))))))))))))), (Sups.cons (fun vs vs' W W' _ hv l hd h => by (show (vs' 0) = ptr ((bx g1).add 0)); rw [hv 0 (anyb rfl)]; exact h) (Sups.cons (fun vs vs' W W' _ hv l hd h => by (show (vs' 1) = v0_0_); rw [hv 1 (anyb rfl)]; exact h) (Sups.cons (fun vs vs' W W' _ hv l hd h => by (show (vs' 2) = vI u72); rw [hv 2 (anyb rfl)]; exact h) (Sups.cons (fun vs vs' W W' _ hv l hd h => by (show (vs' 3) = ptr ((slA v0_0_).add ((u72).toNat * Rp.sz (Commit)))); rw [hv 3 (anyb rfl)]; exact h) (Sups.cons (fun vs vs' W W' _ hv l hd h => by (show (vs' 4) = ptr (((slA v0_0_).add ((u72).toNat * Rp.sz (Commit))).add 1)); rw [hv 4 (anyb rfl)]; exact h) (Sups.cons (fun vs vs' W W' _ hv l hd h => by (show (vs' 5) = vS u97.Who); rw [hv 5 (anyb rfl)]; exact h) (Sups.cons (fun vs vs' W W' _ hv l hd h => by (show (vs' 6) = .agg [v0_0_, v0_1_].toArray); rw [hv 6 (anyb rfl)]; exact h) (Sups.cons (fun vs vs' W W' _ hv l hd h => by (show (vs' 7) = vI u72); rw [hv 7 (anyb rfl)]; exact h) (Sups.cons (fun vs vs' W W' _ hv l hd h => by (show Rd W' [0] [(vs' 8)] z101); rw [hv 8 (anyb rfl)]; exact h.up l (disj_sub hd (K := [0]) rfl)) (Sups.cons (fun vs vs' W W' _ hv l hd h => by (show Ow W' 10 [] [(vs' 9)] z114); rw [hv 9 (anyb rfl)]; exact h.upv l (disj_mem hd (c := 10) rfl)) (Sups.cons (fun vs vs' W W' _ hv l hd h => by (show (vs' 10) = .agg [.slice none 0 0, vS u97.Who, (vs' 9)].toArray); rw [hv 9 (anyb rfl), hv 10 (anyb rfl)]; exact h) (Sups.cons (fun vs vs' W W' _ hv l hd h => by (show (vs' 11) = ptr (bx (pg (vs' 11))) ∧ Bx W' 11 (pg (vs' 11)) [.slice none 0 0, vS ([] : Str), .slice none 0 0]); rw [hv 11 (anyb rfl)]; exact ⟨h.1, h.2.up l (disj_mem hd (c := 11) rfl)⟩) (Sups.cons (fun vs vs' W W' _ hv l hd h => by (show (vs' 11) = ptr (bx (pg (vs' 11))) ∧ Bx W' 11 (pg (vs' 11)) [.slice none 0 0, vS u97.Who, (vs' 9)]); rw [hv 9 (anyb rfl), hv 11 (anyb rfl)]; exact ⟨h.1, h.2.up l (disj_mem hd (c := 11) rfl)⟩) Sups.nil))))))))))))), ?_⟩
   ·intro vs W lW hN
    obtain ⟨W158, hW158⟩ : ∃ X, X = W := ⟨W, rfl⟩
    subst hW158
    refine Tr.mono (Run.tr (R.fa rfl)) ?_
    rintro _ _ ⟨hu, rfl⟩
    obtain rfl := hu.symm
    exact ⟨W158, rfl, Le.refl _ _, (show (ptr ((bx g1).add 0) : Value) = ptr ((bx g1).add 0) from rfl)⟩
   ·intro vs W lW hN
    obtain ⟨W168, hW168⟩ : ∃ X, X = W := ⟨W, rfl⟩
    subst hW168
    have e0_ : vs 0 = ptr ((bx g1).add 0) := (hN 0 (anyb rfl))
    obtain ⟨vs, rfl⟩ := up_eq e0_
    refine Tr.mono (Run.tr (R.ld (v := v0_0_) rfl rfl ((b155.up lW rfl).cell rfl))) ?_
    rintro _ _ ⟨hu, rfl⟩
    obtain rfl := hu.symm
    exact ⟨W168, rfl, Le.refl _ _, (show (v0_0_ : Value) = v0_0_ from rfl)⟩
   ·intro vs W lW hN
    obtain ⟨W178, hW178⟩ : ∃ X, X = W := ⟨W, rfl⟩
    subst hW178
    refine Tr.mono (Run.tr (R.mv (v := vI u72) rfl)) ?_
    rintro _ _ ⟨hu, rfl⟩
    obtain rfl := hu.symm
    exact ⟨W178, rfl, Le.refl _ _, (show (vI u72 : Value) = vI u72 from rfl)⟩
   ·intro vs W lW hN
    obtain ⟨W188, hW188⟩ : ∃ X, X = W := ⟨W, rfl⟩
    subst hW188
    have a189 := a149.t lW rfl
    have e1_ : vs 1 = v0_0_ := (hN 1 (anyb rfl))
    obtain ⟨vs, rfl⟩ := up_eq e1_
    have e2_ : vs 2 = vI u72 := (hN 2 (anyb rfl))
    obtain ⟨vs, rfl⟩ := up_eq e2_
    refine Tr.mono (Run.tr (R.ix (α := Commit) (h0_0.ul a189) e98 rfl rfl rfl)) ?_
    rintro _ _ ⟨hu, rfl⟩
    obtain rfl := hu.symm
    exact ⟨W188, rfl, Le.refl _ _, (show (ptr ((slA v0_0_).add ((u72).toNat * Rp.sz (Commit))) : Value) = ptr ((slA v0_0_).add ((u72).toNat * Rp.sz (Commit))) from rfl)⟩
   ·intro vs W lW hN
    obtain ⟨W199, hW199⟩ : ∃ X, X = W := ⟨W, rfl⟩
    subst hW199
    have e3_ : vs 3 = ptr ((slA v0_0_).add ((u72).toNat * Rp.sz (Commit))) := (hN 3 (anyb rfl))
    obtain ⟨vs, rfl⟩ := up_eq e3_
    refine Tr.mono (Run.tr (R.fa rfl)) ?_
    rintro _ _ ⟨hu, rfl⟩
    obtain rfl := hu.symm
    exact ⟨W199, rfl, Le.refl _ _, (show (ptr (((slA v0_0_).add ((u72).toNat * Rp.sz (Commit))).add 1) : Value) = ptr (((slA v0_0_).add ((u72).toNat * Rp.sz (Commit))).add 1) from rfl)⟩
   ·intro vs W lW hN
    obtain ⟨W209, hW209⟩ : ∃ X, X = W := ⟨W, rfl⟩
    subst hW209
    have a210 := a149.t lW rfl
    have e4_ : vs 4 = ptr (((slA v0_0_).add ((u72).toNat * Rp.sz (Commit))).add 1) := (hN 4 (anyb rfl))
    obtain ⟨vs, rfl⟩ := up_eq e4_
    refine Tr.mono (Run.tr (R.ld rfl rfl (Commit.at1 ((h0_0.ul a210).at_ e98)).str)) ?_
    rintro _ _ ⟨hu, rfl⟩
    obtain rfl := hu.symm
    exact ⟨W209, rfl, Le.refl _ _, (show (vS u97.Who : Value) = vS u97.Who from rfl)⟩
   ·intro vs W lW hN
    obtain ⟨W220, hW220⟩ : ∃ X, X = W := ⟨W, rfl⟩
    subst hW220
    refine Tr.mono (Run.tr (R.lda (cs := [v0_0_, v0_1_]) (b155.up lW rfl).cells rfl rfl)) ?_
    rintro _ _ ⟨hu, rfl⟩
    obtain rfl := hu.symm
    exact ⟨W220, rfl, Le.refl _ _, (show (.agg [v0_0_, v0_1_].toArray : Value) = .agg [v0_0_, v0_1_].toArray from rfl)⟩
   ·intro vs W lW hN
    obtain ⟨W230, hW230⟩ : ∃ X, X = W := ⟨W, rfl⟩
    subst hW230
    refine Tr.mono (Run.tr (R.mv (v := vI u72) rfl)) ?_
    rintro _ _ ⟨hu, rfl⟩
    obtain rfl := hu.symm
    exact ⟨W230, rfl, Le.refl _ _, (show (vI u72 : Value) = vI u72 from rfl)⟩
   ·intro vs W lW hN
    obtain ⟨W240, hW240⟩ : ∃ X, X = W := ⟨W, rfl⟩
    subst hW240
    have a241 := a149.t lW rfl
    have e6_ : vs 6 = .agg [v0_0_, v0_1_].toArray := (hN 6 (anyb rfl))
    obtain ⟨vs, rfl⟩ := up_eq e6_
    have e7_ : vs 7 = vI u72 := (hN 7 (anyb rfl))
    obtain ⟨vs, rfl⟩ := up_eq e7_
    refine Tr.mono (T.call rfl (p115  (Repo.rd (K := [0]) x0.Commits x0.Heads (h0_0.ul a241) (h0_1.ul a241)) e102)) ?_
    rintro v0_252 _ ⟨W252, rfl, l252, ⟨_, rfl, f252_0⟩⟩
    have s253 := f252_0.sub (M := [0]) rfl
    exact ⟨W252, rfl, l252, (show Rd W252 [0] [v0_252] z101 from s253)⟩
   ·intro vs W lW hN
    obtain ⟨W263, hW263⟩ : ∃ X, X = W := ⟨W, rfl⟩
    subst hW263
    obtain ⟨pv8, e8_⟩ : ∃ v, vs 8 = v := ⟨_, rfl⟩
    obtain ⟨vs, rfl⟩ := up_eq e8_
    have o273 : Rd W263 [0] [pv8] z101 := (hN 8 (anyb rfl))
    refine Tr.mono (T.call rfl (p114 (k0 := 10) o273 e115)) ?_
    rintro v0_274 _ ⟨W274, rfl, l274, ⟨_, rfl, f274_0⟩⟩
    exact ⟨W274, rfl, l274, (show Ow W274 10 [] [v0_274] z114 from f274_0)⟩
   ·intro vs W lW hN
    obtain ⟨W284, hW284⟩ : ∃ X, X = W := ⟨W, rfl⟩
    subst hW284
    have e5_ : vs 5 = vS u97.Who := (hN 5 (anyb rfl))
    obtain ⟨vs, rfl⟩ := up_eq e5_
    obtain ⟨pv9, e9_⟩ : ∃ v, vs 9 = v := ⟨_, rfl⟩
    obtain ⟨vs, rfl⟩ := up_eq e9_
    have o294 : Ow W284 10 [] [pv9] z114 := (hN 9 (anyb rfl))
    refine Tr.mono (Run.tr (R.bd (zs := [.slice none 0 0, vS ([] : Str), .slice none 0 0]) (cs := [.slice none 0 0, vS u97.Who, pv9]) [(1, vS u97.Who), (2, pv9)] rfl rfl rfl (bp_cons rfl rfl (bp_cons o294.oc rfl bp_nil)))) ?_
    rintro _ _ ⟨hu, rfl⟩
    obtain rfl := hu.symm
    exact ⟨W284, rfl, Le.refl _ _, (show (.agg [.slice none 0 0, vS u97.Who, pv9].toArray : Value) = .agg [.slice none 0 0, vS u97.Who, pv9].toArray from rfl)⟩
   ·intro vs W lW hN
    obtain ⟨W295, hW295⟩ : ∃ X, X = W := ⟨W, rfl⟩
    subst hW295
    refine Tr.mono (T.alloc 11 (cs := [.slice none 0 0, vS ([] : Str), .slice none 0 0]) rfl) ?_
    rintro _ _ ⟨g305, W305, rfl, rfl, l305, b305⟩
    exact ⟨W305, rfl, l305, (show (ptr (bx g305) : Value) = ptr (bx g305) ∧ Bx W305 11 g305 [.slice none 0 0, vS ([] : Str), .slice none 0 0] from ⟨rfl, b305⟩)⟩
   ·intro vs W lW hN
    obtain ⟨W315, hW315⟩ : ∃ X, X = W := ⟨W, rfl⟩
    subst hW315
    obtain ⟨pv9, e9_⟩ : ∃ v, vs 9 = v := ⟨_, rfl⟩
    obtain ⟨vs, rfl⟩ := up_eq e9_
    have o325 : Ow W315 10 [] [pv9] z114 := (hN 9 (anyb rfl))
    have e10_ : vs 10 = .agg [.slice none 0 0, vS u97.Who, pv9].toArray := (hN 10 (anyb rfl))
    obtain ⟨vs, rfl⟩ := up_eq e10_
    obtain ⟨pg11, e11_⟩ : ∃ pg11, vs 11 = ptr (bx pg11) := ⟨_, ((hN 11 (anyb rfl))).1⟩
    obtain ⟨vs, rfl⟩ := up_eq e11_
    have o326 : Bx W315 11 pg11 [.slice none 0 0, vS ([] : Str), .slice none 0 0] := (hN 11 (anyb rfl)).2
    refine Tr.mono (T.sta (vs := [.slice none 0 0, vS u97.Who, pv9]) o326 rfl rfl (oc_cons rfl (oc_cons rfl (oc_cons o325.oc oc_nil))) rfl rfl) ?_
    rintro _ _ ⟨W327, rfl, l327, b327⟩
    exact ⟨W327, rfl, l327, (show (ptr (bx pg11)) = ptr (bx pg11) ∧ Bx W327 11 pg11 [.slice none 0 0, vS u97.Who, pv9] from ⟨rfl, b327⟩)⟩
   ·intro vs W lW hN
    obtain ⟨W338, hW338⟩ : ∃ X, X = W := ⟨W, rfl⟩
    subst hW338
    have a339 := a149.t lW rfl
    obtain ⟨l338, hl338⟩ : ∃ x, x = lW := ⟨lW, rfl⟩
    have e0_ : vs 0 = ptr ((bx g1).add 0) := (hN 0 (anyb rfl))
    obtain ⟨vs, rfl⟩ := up_eq e0_
    have e1_ : vs 1 = v0_0_ := (hN 1 (anyb rfl))
    obtain ⟨vs, rfl⟩ := up_eq e1_
    have e2_ : vs 2 = vI u72 := (hN 2 (anyb rfl))
    obtain ⟨vs, rfl⟩ := up_eq e2_
    have e3_ : vs 3 = ptr ((slA v0_0_).add ((u72).toNat * Rp.sz (Commit))) := (hN 3 (anyb rfl))
    obtain ⟨vs, rfl⟩ := up_eq e3_
    have e4_ : vs 4 = ptr (((slA v0_0_).add ((u72).toNat * Rp.sz (Commit))).add 1) := (hN 4 (anyb rfl))
    obtain ⟨vs, rfl⟩ := up_eq e4_
    have e5_ : vs 5 = vS u97.Who := (hN 5 (anyb rfl))
    obtain ⟨vs, rfl⟩ := up_eq e5_
    have e6_ : vs 6 = .agg [v0_0_, v0_1_].toArray := (hN 6 (anyb rfl))
    obtain ⟨vs, rfl⟩ := up_eq e6_
    have e7_ : vs 7 = vI u72 := (hN 7 (anyb rfl))
    obtain ⟨vs, rfl⟩ := up_eq e7_
    obtain ⟨pv8, e8_⟩ : ∃ v, vs 8 = v := ⟨_, rfl⟩
    obtain ⟨vs, rfl⟩ := up_eq e8_
    have o348 : Rd W338 [0] [pv8] z101 := (hN 8 (anyb rfl))
    obtain ⟨pv9, e9_⟩ : ∃ v, vs 9 = v := ⟨_, rfl⟩
    obtain ⟨vs, rfl⟩ := up_eq e9_
    have o349 : Ow W338 10 [] [pv9] z114 := (hN 9 (anyb rfl))
    have e10_ : vs 10 = .agg [.slice none 0 0, vS u97.Who, pv9].toArray := (hN 10 (anyb rfl))
    obtain ⟨vs, rfl⟩ := up_eq e10_
    obtain ⟨pg11, e11_⟩ : ∃ pg11, vs 11 = ptr (bx pg11) := ⟨_, (hN 12 (anyb rfl)).1⟩
    obtain ⟨vs, rfl⟩ := up_eq e11_
    have o350 : Bx W338 11 pg11 [.slice none 0 0, vS u97.Who, pv9] := (hN 12 (anyb rfl)).2
    refine ssr (fl (b155.up lW rfl) rfl (mi rfl ?_))
    obtain ⟨u351, e352, hm⟩ := ob hm
    refine Lw.r rfl (R.ix (α := Commit) (h0_0.ul a339) e352 rfl rfl rfl) (Lw.fa rfl ?_)
    obtain ⟨v354, c355, r356⟩ := (Commit.at0 ((h0_0.ul a339).at_ e352)).cell rfl
    refine Lw.r rfl (R.ld rfl rfl c355) (Lw.ln u351.Parents r356 rfl (mi rfl (nl (Cw.block ?_))))
    obtain ⟨K368, hK368, hm⟩ := jn_e hm
    refine Cw.loop 52 65 [9, 52] (fun m l w => ∃ y358 y359 y362 y363 j357 v360 v364 W367, CW.w W367 = w ∧ Le [11, 12] W338 W367 ∧ l = [j357, vI y358] ∧ Ow W367 12 [] [v360] y359 ∧ Ow W367 10 [] [v364] y363 ∧ Bx W367 11 pg11 [v360, vS y362, v364] ∧ Vm.impl_KeepOnly_l2 q77 u351 K368 m y358 y359 y362 y363 = some r) _ ⟨0, ([] : List Int), u97.Who, z114, j52, .slice none 0 0, pv9, W338, rfl, Le.refl _ _, rfl, owN 12 [], o349, o350, hm⟩ ?_
    rintro (_ | m369) _ _ σ ⟨y358, y359, y362, y363, j357, v360, v364, W367, rfl, l367, rfl, o361, o365, b366, hm⟩
    ·cases hm
    unfold Vm.impl_KeepOnly_l2 at hm
    have a370 := l367.s
    have o371 := ((o76.up l148).up lW rfl).up l367
    have b378 := (((b60.up l76).up l148).up lW rfl).up l367
    refine sr (Lw.lt rfl (nl (Cw.seq (cn hm (fun hm => ?_) fun hm => ?_))))
    ·refine sk (Cw.seq (Cw.block (sr ?_)))
     obtain ⟨u380, e381, hm⟩ := ob hm
     refine Lw.r rfl (R.ix (α := Int) (r356.ul a370) e381 rfl rfl rfl) (Lw.r rfl (R.ld rfl rfl ((r356.ul a370).at_ e381).int) (Ni rfl (Cw.draw [12] [(0, 0), (1, 1), (2, 0), (3, 0), (4, 0), (5, 1), (6, 2), (7, 2), (8, 0), (9, 3)] mixed (by kernel_rfl) fun W383 l383 => ?_)))
     have o385 := o371.up l383
     refine Dfl (b366.up l383) rfl rfl rfl (Dv v22 rfl (Di rfl ?_))
     obtain ⟨u396, e397, hm⟩ := ob hm
     refine Mw.p rfl rfl (fun _ => R.ix (α := Int) o385.rd e397 rfl rfl rfl) (Mw.q rfl rfl (fun _ c => R.ld rfl rfl (cl_cell (o385.rd.at_ e397).1 rfl (o385.rd.at_ e397).int c)) (Mw.t rfl rfl (T.bs 13 [vI u396] (cs := [vI u396]) rfl rfl (bsv rfl)) ?_))
     rintro _ _ ⟨g398, W398, rfl, rfl, l398, b398⟩
     refine m0 l398 fun d398 => ?_
     obtain ⟨q411, e412, hm⟩ := ob hm
     refine Mw.t rfl rfl (T.app1S (α := Int) (K' := []) ((o361.up l383).up l398) b398 (rdI _) rfl rfl e412) ?_
     rintro v413 _ ⟨W413, rfl, l413, o413⟩
     refine mc d398 l413 fun d413 => Df rfl (Mw.lu rfl (T.st (j := 0) (v := v413) (((b366.up l383).up l398).up l413) rfl rfl o413.oc rfl rfl) ?_)
     rintro _ _ ⟨W426, rfl, l426, b426⟩
     exact Mw.nil (rg (Lw.add rfl (mi rfl (nl ((agm) ⟨w64 (y358 + 1), q411, y362, y363, vI u380, v413, v364, W426, rfl, ((((l367.j l383).j l398).j l413).j l426).w, rfl, (o413.up l426), ((((o365.up l383).up l398).up l413).up l426), b426, hm⟩)))))
    ·refine Cw.exit ?_
     rw [hK368] at hm
     refine rg (fl b378 rfl (la b366 (Lw.t rfl (T.bs 14 [.agg [v360, vS y362, v364].toArray] (cs := [v360, vS y362, v364]) rfl rfl (bsA rfl)) ?_)))
     rintro _ _ ⟨g439, W439, rfl, rfl, l439, b439⟩
     obtain ⟨q452, e453, hm⟩ := ob hm
     refine Lw.t rfl (T.app1 (α := Commit) (J := [12, 10]) (K' := []) (((((o56.up l76).up l148).up lW rfl).up l367).up l439) b439 (Commit.own y359 y362 y363 (o361.up l439).s (o365.up l439).s) rfl rfl e453) ?_
     rintro v454 _ ⟨W454, rfl, l454, o454⟩
     refine Lw.fa rfl (Lw.u (T.st (j := 0) (v := v454) ((b378.up l439).up l454) rfl rfl o454.oc rfl rfl) ?_)
     rintro _ _ ⟨W465, rfl, l465, b465⟩
     exact nl (rg (Lw.add rfl (mi rfl (nl ((agm) ⟨w64 (y53 + 1), q452, y57, q77, vI u72, ptr (bx pg11), j357, v454, v58, W465, rfl, (((((((l63.j l76).j l148).j l338).j l367).j l439).j l454).j l465).w, rfl, (o454.up l465), (((((((o59.up l76).up l148).up lW rfl).up l367).up l439).up l454).up l465), b465, (((o371.up l439).up l454).up l465), hm⟩)))))
  ·refine Cw.exit ?_
   rw [hK64] at hm
   refine ssr (fl b69 rfl (Lw.ln x0.Heads (h0_1.ul a66) rfl (mi rfl (nl (Cw.block ?_)))))
   obtain ⟨K487, hK487, hm⟩ := jn_e hm
   refine Cw.loop 76 93 [11, 76] (fun m l w => ∃ y478 y479 y482 j477 v480 v483 W486, CW.w W486 = w ∧ Le [5, 9, 15] W63 W486 ∧ l = [j477, vI y478] ∧ Ow W486 8 [] [v480] y479 ∧ Ow W486 9 [] [v483] y482 ∧ Bx W486 5 g26 [v480, v483] ∧ Vm.impl_KeepOnly_l3 x0 y61 K487 m y478 y479 y482 = some r) _ ⟨0, y54, y57, undef, v55, v58, W63, rfl, Le.refl _ _, rfl, o56, o59, b60, hm⟩ ?_
   rintro (_ | m488) _ _ σ ⟨y478, y479, y482, j477, v480, v483, W486, rfl, l486, rfl, o481, o484, b485, hm⟩
   ·cases hm
   unfold Vm.impl_KeepOnly_l3 at hm
   have a489 := a66.t l486
   refine sr (Lw.lt rfl (nl (Cw.seq (cn hm (fun hm => ?_) fun hm => ?_))))
   ·refine sk (Cw.seq (Cw.block (sr ?_)))
    obtain ⟨u496, e497, hm⟩ := ob hm
    refine Lw.r rfl (R.ix (α := Head) (h0_1.ul a489) e497 rfl rfl rfl) ?_
    obtain ⟨x499, c500, _, r501⟩ := ((h0_1.ul a489).at_ e497).cells
    obtain rfl := Head.split r501
    refine Lw.r rfl (R.lda c500 rfl rfl) (al 15 [vS ([] : Str), vI 0] fun g502 W502 l502 b502 => sta b502 (oc_cons rfl (oc_cons rfl oc_nil)) fun W512 l512 b512 => nl (Cw.draw [9] [(0, 0), (1, 1), (2, 0), (3, 1), (4, 0), (5, 0), (6, 1), (7, 0), (8, 1), (9, 0), (10, 2), (11, 2), (12, 0), (13, 3)] mixed (by kernel_rfl) fun W522 l522 => ?_))
    have o524 := (((o62.up l486).up l502).up l512).up l522
    have b531 := ((b485.up l502).up l512).up l522
    refine Dfl b531 rfl rfl rfl (Dfl (b512.up l522) rfl rfl rfl (Dv v22 rfl (Dfl (b512.up l522) rfl rfl rfl ?_)))
    obtain ⟨u533, e534, hm⟩ := ob hm
    refine Mw.p rfl rfl (fun _ => R.ix (α := Int) o524.rd e534 rfl rfl rfl) (Mw.q rfl rfl (fun _ c => R.ld rfl rfl (cl_cell (o524.rd.at_ e534).1 rfl (o524.rd.at_ e534).int c)) (Mw.p rfl rfl (fun _ => R.bd (zs := [vS ([] : Str), vI 0]) (cs := [vS u496.Name, vI u533]) [(0, vS u496.Name), (1, vI u533)] rfl rfl rfl (bp_cons rfl rfl (bp_cons rfl rfl bp_nil))) (Mw.t rfl rfl (T.bs 16 [.agg [vS u496.Name, vI u533].toArray] (cs := [vS u496.Name, vI u533]) rfl rfl (bsA rfl)) ?_)))
    rintro _ _ ⟨g535, W535, rfl, rfl, l535, b535⟩
    refine m0 l535 fun d535 => ?_
    obtain ⟨q546, e547, hm⟩ := ob hm
    refine Mw.t rfl rfl (T.app1S (α := Head) (K' := []) ((((o484.up l502).up l512).up l522).up l535) b535 (Head.rd (K := []) u496.Name u533) rfl rfl e547) ?_
    rintro v548 _ ⟨W548, rfl, l548, o548⟩
    refine mc d535 l548 fun d548 => Df rfl (Mw.lu rfl (T.st (j := 1) (v := v548) ((b531.up l535).up l548) rfl rfl o548.oc rfl rfl) ?_)
    rintro _ _ ⟨W559, rfl, l559, b559⟩
    exact Mw.nil (rg (Lw.add rfl (mi rfl (nl ((agm) ⟨w64 (y478 + 1), y479, q546, ptr (bx g502), v480, v548, W559, rfl, ((((((l486.j l502).j l512).j l522).j l535).j l548).j l559).w, rfl, ((((((o481.up l502).up l512).up l522).up l535).up l548).up l559), (o548.up l559), b559, hm⟩)))))
   ·refine Cw.exit ?_
    rw [hK487] at hm
    refine sr (la b485 (sta (((((((b3.up l11).up l22).up l26).up l35).up l43).up l63).up l486) (oc_cons o481.oc (oc_cons o484.oc oc_nil)) fun W570 l570 b570 => ?_))
    have a571 := a489.t l570
    refine nl ?_
    obtain ⟨W579, ew579, l579, o579⟩ := (o481.up l570).dyeO 31
    have a580 := a571.t l579
    obtain ⟨W588, ew588, l588, o588⟩ := ((o484.up l570).up l579).dyeO 32
    have a589 := a580.t l588
    cases hm
    rw [← ew588.trans (ew579)]
    exact Cw.ret (retA1 rfl ((b570.up l579).up l588) (Res.mk a589 ⟨v480, v483, rfl, (o579.up l588).s, o588.s⟩))
theorem p54 {x0 v0_0_ v0_1_ k0 k1 r} (h0 : Rd W K [v0_0_, v0_1_] x0) (h99 : Gl 0 W K) (hm : Vm.impl_KeepOnly x0 = some r) : Q1 54 [.agg [v0_0_, v0_1_].toArray] W [] fun W' v => ∃ u0_0 u0_1, v = .agg [u0_0, u0_1].toArray ∧ Ow W' k0 [] [u0_0] r.Commits ∧ Ow W' k1 [] [u0_1] r.Heads :=
 CallR.adJ (J := []) (fun c => bif Nat.beq c 0 then 0 else bif Nat.beq c 31 then k0 else bif Nat.beq c 32 then k1 else 0) (c54 (h0.view _) (h99.view _) hm) fun _ _ ⟨u0_0, u0_1, e, f0, f1⟩ => ⟨u0_0, u0_1, e, f0.one1.backN rfl, f1.one1.backN rfl⟩
theorem c112 {x0 v0_0_ v0_1_ x1 v1_ x2 r} (h0 : Rd W0 [0] [v0_0_, v0_1_] x0) (h1 : Rd W0 [0] [v1_] x1) (h99 : Gl 0 W0 [0]) (hm : Vm.impl_Repo_areSuspect x0 x1 x2 = some r) : Q0 112 [.agg [v0_0_, v0_1_].toArray, v1_, vI x2] W0 fun Wf v => v = vB r := by
 unfold Vm.impl_Repo_areSuspect at hm
 obtain ⟨w0_0, w0_1, he0, h0_0, h0_1⟩ := Repo.split h0
 simp only [List.cons.injEq, and_true, true_and] at he0
 obtain ⟨rfl, rfl⟩ := he0
 refine CallR.of Tryz.func112 rfl rfl rfl rfl (sr (bo 2 rfl fun g1 W1 l1 b1 => ?_))
 have a2 := l1.o
 refine Nb rfl ?_
 obtain ⟨K5, hK5, hm⟩ := jn_e hm
 refine Cw.join 7 19 [6] (fun l w => ∃ y3 W4, CW.w W4 = w ∧ Le [] W1 W4 ∧ l = [vB y3] ∧ K5 y3 = some r) ?_ ?_
 ·rintro _ _ σ ⟨y3, W4, rfl, l4, rfl, hm⟩
  rw [hK5] at hm
  have a6 := a2.n l4
  exact .ret (rt hm a6)
 ·refine rg (la b1 (mv v1_ rfl (ca hm (fun _ => p87 (Repo.rd (K := [0]) x0.Commits x0.Heads (h0_0.ul a2) (h0_1.ul a2)) (h1.ul a2) (h99.ul a2)) fun z12 W14 hm l14 => ?_)))
  have a15 := a2.n l14
  refine mb rfl (bs hm (fun hc17 hm => ?_) fun hc17 hm => ?_)
  ·refine wak 3 hc17 (mv v1_ rfl (Lw.ln x1 (h1.ul a15) rfl (Lw.le rfl (Pb hc17 rfl (mb rfl (bs hm (fun hc19 hm => ?_) fun hc19 hm => ?_))))))
   ·exact wak 3 hc19 (la (b1.up l14) (mi rfl (ca hm (fun _ => p126 (Repo.rd (K := [0]) x0.Commits x0.Heads (h0_0.ul a15) (h0_1.ul a15))) fun z22 W24 hm l24 => Pb hc19 rfl (Nb rfl ((ag) ⟨z22, W24, rfl, (l14.j l24).w, rfl, hm⟩)))))
   ·exact psk 3 hc19 rfl (Pb hc19 rfl (Nb rfl ((ag) ⟨false, W14, rfl, l14, rfl, hm⟩)))
  ·exact psk 3 hc17 rfl (Pb hc17 rfl (mb rfl (psk 3 rfl rfl (Pb rfl rfl (Nb rfl ((ag) ⟨false, W14, rfl, l14, rfl, hm⟩))))))
theorem p112 {x0 v0_0_ v0_1_ x1 v1_ x2 r} (h0 : Rd W K [v0_0_, v0_1_] x0) (h1 : Rd W K [v1_] x1) (h99 : Gl 0 W K) (hm : Vm.impl_Repo_areSuspect x0 x1 x2 = some r) : Q1 112 [.agg [v0_0_, v0_1_].toArray, v1_, vI x2] W [] fun W' v => v = vB r :=
 (c112 (h0.view _) (h1.view _) (h99.view _) hm).ad (fk 0) fun _ _ e => e
theorem c113 {x0 v0_0_ v0_1_ x1 x2 v2_ r} (h0 : Rd W0 [0] [v0_0_, v0_1_] x0) (h2 : Rd W0 [0] [v2_] x2) (hm : Vm.impl_Repo_since x0 x1 x2 = some r) : Q0 113 [.agg [v0_0_, v0_1_].toArray, vI x1, v2_] W0 fun Wf v => ∃ u0, v = u0 ∧ OwS Wf LL [] [u0] r := by
 unfold Vm.impl_Repo_since at hm
 obtain ⟨w0_0, w0_1, he0, h0_0, h0_1⟩ := Repo.split h0
 simp only [List.cons.injEq, and_true, true_and] at he0
 obtain ⟨rfl, rfl⟩ := he0
 refine CallR.of Tryz.func113 rfl rfl rfl rfl (sr (bo 2 rfl fun g1 W1 l1 b1 => ?_))
 have a2 := l1.o
 refine Nv (.slice none 0 0) rfl (sr (la b1 (mi rfl (cr hm (fun _ => p109 (k0 := 3) (Repo.rd (K := [0]) x0.Commits x0.Heads (h0_0.ul a2) (h0_1.ul a2))) ?_))))
 rintro z5 v0_7 W7 hm l7 ⟨_, rfl, f7_0⟩
 have a8 := a2.n l7
 refine Nv v0_7 rfl (ssr (mv v2_ rfl (Lw.ln x2 (h2.ul a8) rfl (mi rfl (nl (Cw.block ?_))))))
 obtain ⟨K17, hK17, hm⟩ := jn_e hm
 refine Cw.loop 17 34 [9, 11, 17] (fun m l w => ∃ y13 y14 j11 j12 W16, CW.w W16 = w ∧ Le [3] W7 W16 ∧ l = [j11, j12, vI y13] ∧ Ow W16 3 [] [v0_7] y14 ∧ Vm.impl_Repo_since_l1 x0 x2 K17 m y13 y14 = some r) _ ⟨0, z5, undef, undef, W7, rfl, Le.refl _ _, rfl, f7_0, hm⟩ ?_
 rintro (_ | m18) _ _ σ ⟨y13, y14, j11, j12, W16, rfl, l16, rfl, o15, hm⟩
 ·cases hm
 unfold Vm.impl_Repo_since_l1 at hm
 have a19 := a8.t l16
 refine sr (Lw.lt rfl (nl (Cw.seq (cn hm (fun hm => ?_) fun hm => ?_))))
 ·refine sk (Cw.seq (Cw.block (sr ?_)))
  obtain ⟨u22, e23, hm⟩ := ob hm
  refine Lw.r rfl (R.ix (α := Int) (h2.ul a19) e23 rfl rfl rfl) (Lw.r rfl (R.ld rfl rfl ((h2.ul a19).at_ e23).int) (Ni rfl (sr (la ((b1.up l7).up l16) (mi rfl (cr hm (fun _ => p109 (k0 := 4) (Repo.rd (K := [0]) x0.Commits x0.Heads (h0_0.ul a19) (h0_1.ul a19))) ?_))))))
  rintro z27 v0_29 W29 hm l29 ⟨_, rfl, f29_0⟩
  refine cr hm (fun _ => p108 (K := [4]) (k0 := 5) f29_0.rd) ?_
  rintro z33 v0_35 W35 hm l35 ⟨_, rfl, f35_0⟩
  refine Lw.ln z33 f35_0.rd rfl (mi rfl (nl (Cw.block ?_)))
  obtain ⟨K45, hK45, hm⟩ := jn_e hm
  refine Cw.loop 26 33 [11, 26] (fun m l w => ∃ y41 y42 j40 W44, CW.w W44 = w ∧ Le [3] W35 W44 ∧ l = [j40, vI y41] ∧ Ow W44 3 [] [v0_7] y42 ∧ Vm.impl_Repo_since_l2 z33 K45 m y41 y42 = some r) _ ⟨0, y14, j12, W35, rfl, Le.refl _ _, rfl, ((o15.up l29).up l35), hm⟩ ?_
  rintro (_ | m46) _ _ σ ⟨y41, y42, j40, W44, rfl, l44, rfl, o43, hm⟩
  ·cases hm
  unfold Vm.impl_Repo_since_l2 at hm
  refine sr (Lw.lt rfl (nl (Cw.seq (cn hm (fun hm => ?_) fun hm => ?_))))
  ·refine sk (Cw.seq (Cw.block (sr ?_)))
   obtain ⟨u52, e53, hm⟩ := ob hm
   refine Lw.r rfl (R.ix (α := Int) (f35_0.up l44).rd e53 rfl rfl rfl) (Lw.r rfl (R.ld rfl rfl ((f35_0.up l44).rd.at_ e53).int) (Ni rfl (rg (mv v0_7 rfl (mi rfl ?_)))))
   obtain ⟨u54, e55, hm⟩ := ob hm
   refine Lw.r rfl (R.ix (α := Bool) o43.rd e55 rfl rfl rfl) ?_
   obtain ⟨q57, e58, hm⟩ := ob hm
   refine Lw.u (T.stS (K' := []) o43 (rdB _) e58 rfl rfl rfl) ?_
   rintro _ _ ⟨W56, rfl, l56, o56⟩
   exact nl (rg (Lw.add rfl (mi rfl (nl ((agm) ⟨w64 (y41 + 1), q57, vI u52, W56, rfl, (l44.j l56).w, rfl, o56, hm⟩)))))
  ·refine Cw.exit ?_
   rw [hK45] at hm
   exact rg (Lw.add rfl (mi rfl (nl ((agm) ⟨w64 (y13 + 1), y42, vI u22, j40, W44, rfl, (((l16.j l29).j l35).j l44).w, rfl, o43, hm⟩))))
 ·refine Cw.exit ?_
  rw [hK17] at hm
  refine sr (mv v0_7 rfl (cr hm (fun _ => p108 (K := [3]) (k0 := 6) o15.rd) ?_))
  rintro z63 v0_65 W65 hm l65 ⟨_, rfl, f65_0⟩
  have a66 := a19.n l65
  refine Nv v0_65 rfl ?_
  cases hm
  exact Cw.ret (ret1 rfl (Res.mk a66 ⟨v0_65, rfl, f65_0.s.sub rfl rfl⟩))
theorem p113 {x0 v0_0_ v0_1_ x1 x2 v2_ k0 r} (h0 : Rd W K [v0_0_, v0_1_] x0) (h2 : Rd W K [v2_] x2) (hm : Vm.impl_Repo_since x0 x1 x2 = some r) : Q1 113 [.agg [v0_0_, v0_1_].toArray, vI x1, v2_] W [] fun W' v => ∃ u0, v = u0 ∧ Ow W' k0 [] [u0] r :=
 (c113 (h0.view _) (h2.view _) hm).ad (fk k0) fun _ _ ⟨u0, e, f0⟩ => ⟨u0, e, f0.back (fk_LL _)⟩
theorem c116 {x0 v0_ x1 r} (h0 : Rd W0 [0] [v0_] x0) (hm : Vm.slices_Index_int_int x0 x1 = some r) : Q0 116 [v0_, vI x1] W0 fun Wf v => v = vI r := by
 unfold Vm.slices_Index_int_int at hm
 refine CallR.of Tryz.func116 rfl rfl rfl rfl (sr (Ni rfl (ssr (mv v0_ rfl (Lw.ln x0 h0 rfl (mi rfl (nl (Cw.block ?_))))))))
 obtain ⟨K5, hK5, hm⟩ := jn_e hm
 refine Cw.loop 8 18 [4, 5, 8] (fun m l w => ∃ y1 y3 j2 W4, CW.w W4 = w ∧ Le [] W0 W4 ∧ l = [vI y1, j2, vI y3] ∧ Vm.slices_Index_int_int_l1 x0 x1 K5 m y1 y3 = some r) _ ⟨0, 0, undef, W0, rfl, Le.refl _ _, rfl, hm⟩ ?_
 rintro (_ | m6) _ _ σ ⟨y1, y3, j2, W4, rfl, l4, rfl, hm⟩
 ·cases hm
 unfold Vm.slices_Index_int_int_l1 at hm
 have a7 := l4.o
 refine sr (Lw.lt rfl (nl (Cw.seq (cn hm (fun hm => ?_) fun hm => ?_))))
 ·refine sk (Cw.seq (Cw.block (sr (mi rfl (Ni rfl (sr (mi rfl (mv v0_ rfl (mi rfl ?_)))))))))
  obtain ⟨u9, e10, hm⟩ := ob hm
  refine Lw.r rfl (R.ix (α := Int) (h0.ul a7) e10 rfl rfl rfl) (Lw.r rfl (R.ld rfl rfl ((h0.ul a7).at_ e10).int) (Lw.eq rfl (nl (cn hm (fun hm => ?_) fun hm => ?_))))
  ·exact sr (mi rfl (Ni rfl (.ret (rt hm a7))))
  ·exact sk (rg (Lw.add rfl (mi rfl (nl ((agm) ⟨y1, w64 (y3 + 1), vI y3, W4, rfl, l4, rfl, hm⟩)))))
 ·refine Cw.exit ?_
  rw [hK5] at hm
  exact sr (Ni rfl (.ret (rt hm a7)))
theorem p116 {x0 v0_ x1 r} (h0 : Rd W K [v0_] x0) (hm : Vm.slices_Index_int_int x0 x1 = some r) : Q1 116 [v0_, vI x1] W [] fun W' v => v = vI r :=
 (c116 (h0.view _) hm).ad (fk 0) fun _ _ e => e
end Go.Sx
