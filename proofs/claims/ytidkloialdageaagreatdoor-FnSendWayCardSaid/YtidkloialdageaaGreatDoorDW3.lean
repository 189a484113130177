/- Walks: each function answers as its model, printed by a program of ours. Conditions: the arguments read as they are given. -/
import Derived.Test.YtidkloialdageaaGreatDoorDTs
import Derived.Test.YtidkloialdageaaGreatDoorDM0
import Derived.Test.YtidkloialdageaaGreatDoorDW1
import Derived.Test.YtidkloialdageaaGreatDoorDW2
namespace Go.Sx
open Go Go.Proofs Go.Vm Rp
set_option linter.unusedVariables false
set_option linter.unusedSimpArgs false
variable {W W0 : CW} {K : List Nat}
theorem c60 {x0 v0_0_ v0_1_ x1 x2 r} (h0 : Rd W0 [0] [v0_0_, v0_1_] x0) (hm : Vm.spec_RepoBranch x0 x1 x2 = some r) : Q0 60 [.agg [v0_0_, v0_1_].toArray, vS x1, vI x2] W0 fun Wf v => ∃ u0_0 u0_1, v = .tuple [.agg [u0_0, u0_1].toArray, vB r.2].toArray ∧ Rd Wf [0] [u0_0] r.1.Commits ∧ Rd Wf [0] [u0_1] r.1.Heads := by
 unfold Vm.spec_RepoBranch at hm
 obtain ⟨w0_0, w0_1, he0, h0_0, h0_1⟩ := Repo.split h0
 simp only [List.cons.injEq, and_true, true_and] at he0
 obtain ⟨rfl, rfl⟩ := he0
 refine CallR.of Tryz.func60 rfl rfl rfl rfl (sr (bo 2 rfl fun g1 W1 l1 b1 => ?_))
 have a2 := l1.o
 refine al 3 [.slice none 0 0, .slice none 0 0] fun g3 W3 l3 b3 => ?_
 have a4 := a2.n l3
 refine Nb rfl (ssr (la (b1.up l3) (ca hm (fun _ => p74 (Repo.rd (K := [0]) x0.Commits x0.Heads (h0_0.ul a4) (h0_1.ul a4))) fun z8 W10 hm l10 => ?_)))
 have a11 := a4.n l10
 have b12 := (b1.up l3).up l10
 refine Lw.r rfl (R.not rfl) (nl (cn hm (fun hm => ?_) fun hm => ?_))
 ·refine sr (Lw.r rfl (R.bd (zs := [.slice none 0 0, .slice none 0 0]) (cs := [.slice none 0 0, .slice none 0 0]) [] rfl rfl rfl bp_nil) (sta (b3.up l10) (oc_cons rfl (oc_cons rfl oc_nil)) fun W15 l15 b15 => ?_))
  have a16 := a11.t l15
  refine Nb rfl ?_
  cases hm
  exact Cw.ret (retA2 rfl b15 rfl (Res.mk a16 ⟨.slice none 0 0, .slice none 0 0, rfl, (rdN (K := [0])), (rdN (K := [0]))⟩))
 ·refine sk (sr (la b12 (cr hm (fun _ => p75 (k0 := 4) (k1 := 5) (Repo.rd (K := [0]) x0.Commits x0.Heads (h0_0.ul a11) (h0_1.ul a11))) ?_)))
  rintro z20 _ W22 hm l22 ⟨v0_0_22, v0_1_22, rfl, f22_0, f22_1⟩
  have a23 := a11.n l22
  refine ms rfl (mi rfl (cr hm (fun _ => p129 (K := [4, 5]) (x0 := (Vm.Repo.mk z20.Commits z20.Heads)) (Repo.rd (K := [4, 5]) z20.Commits z20.Heads (f22_0.rd.sub (M := [4, 5]) rfl) (f22_1.rd.sub (M := [4, 5]) rfl))) ?_))
  rintro z26 _ W28 hm l28 ⟨v0_0_28, v0_1_28, rfl, f28_0, f28_1⟩
  have s29 := f28_0.sub (M := [0, 4, 5]) rfl
  have s30 := f28_1.sub (M := [0, 4, 5]) rfl
  have a31 := a23.n l28
  refine al 6 [.slice none 0 0, .slice none 0 0] fun g36 W36 l36 b36 => ?_
  have a37 := a31.n l36
  refine sta b36 (oc_cons s29.oc (oc_cons s30.oc oc_nil)) fun W42 l42 b42 => ?_
  have a43 := a37.t l42
  have b46 := (((b12.up l22).up l28).up l36).up l42
  refine nl (Cw.seq ?_)
  obtain ⟨K50, hK50, hm⟩ := jn_e hm
  refine Cw.join 18 26 [26] (fun l w => ∃ y48 W49, CW.w W49 = w ∧ Le [] W42 W49 ∧ l = [vB y48] ∧ K50 y48 = some r) ?_ ?_
  ·rintro _ _ σ ⟨y48, W49, rfl, l49, rfl, hm⟩
   rw [hK50] at hm
   have a51 := a43.n l49
   have b55 := (((((b3.up l10).up l22).up l28).up l36).up l42).up l49
   refine cn hm (fun hm => ?_) fun hm => ?_
   ·refine sr (la (b46.up l49) (cr hm (fun _ => p75 (k0 := 7) (k1 := 8) (Repo.rd (K := [0]) x0.Commits x0.Heads (h0_0.ul a51) (h0_1.ul a51))) ?_))
    rintro z60 _ W62 hm l62 ⟨v0_0_62, v0_1_62, rfl, f62_0, f62_1⟩
    have a63 := a51.n l62
    refine sta (b55.up l62) (oc_cons f62_0.oc (oc_cons f62_1.oc oc_nil)) fun W69 l69 b69 => ?_
    have a70 := a63.t l69
    refine Nb rfl ?_
    obtain ⟨W77, ew77, l77, dj77⟩ := dyeE _ 7
    have s78 : Rd (α := List Vm.Commit) W77 [0] [v0_0_62] z60.Commits := by rw [dj77]; exact ((f62_0.up l69).rd.dye 7).sub (M := [0]) rfl
    have a79 := a70.t l77
    obtain ⟨W86, ew86, l86, dj86⟩ := dyeE _ 8
    have s87 : Rd (α := List Vm.Head) W86 [0] [v0_1_62] z60.Heads := by rw [dj86]; exact (((f62_1.up l69).up l77).rd.dye 8).sub (M := [0]) rfl
    have a88 := l86.s
    cases hm
    rw [← ew86.trans (ew77)]
    exact Cw.ret (retA2 rfl ((b69.up l77).up l86) rfl (Res.mk (a79.trans a88) ⟨v0_0_62, v0_1_62, rfl, (s78.ul a88), s87⟩))
   ·refine sk (sr (la (b42.up l49) (sta b55 (oc_cons s29.oc (oc_cons s30.oc oc_nil)) fun W95 l95 b95 => ?_)))
    have a96 := a51.t l95
    refine Nb rfl ?_
    have s101 := s29.up ((l36.sub (M := [3, 6]) rfl).trans ((l42.sub (M := [3, 6]) rfl).trans ((l49.sub (M := [3, 6]) rfl).trans (l95.sub (M := [3, 6]) rfl)))) rfl
    have s102 := s30.up ((l36.sub (M := [3, 6]) rfl).trans ((l42.sub (M := [3, 6]) rfl).trans ((l49.sub (M := [3, 6]) rfl).trans (l95.sub (M := [3, 6]) rfl)))) rfl
    obtain ⟨W103, ew103, l103, dj103⟩ := dyeE _ 4
    have s104 : Rd W103 [0, 5] [v0_0_28] z26.Commits := by rw [dj103]; exact (s101.dye 4).sub (M := [0, 5]) rfl
    have s105 : Rd W103 [0, 5] [v0_1_28] z26.Heads := by rw [dj103]; exact (s102.dye 4).sub (M := [0, 5]) rfl
    have s106 : Rd (α := List Vm.Commit) W103 [0] [v0_0_22] z20.Commits := by rw [dj103]; exact ((((((f22_0.up l28).up l36).up l42).up l49).up l95).rd.dye 4).sub (M := [0]) rfl
    have a107 := a96.t l103
    obtain ⟨W112, ew112, l112, dj112⟩ := dyeE _ 5
    have s113 : Rd W112 [0] [v0_0_28] z26.Commits := by rw [dj112]; exact (s104.dye 5).sub (M := [0]) rfl
    have s114 : Rd W112 [0] [v0_1_28] z26.Heads := by rw [dj112]; exact (s105.dye 5).sub (M := [0]) rfl
    have s115 : Rd (α := List Vm.Head) W112 [0] [v0_1_22] z20.Heads := by rw [dj112]; exact (((((((f22_1.up l28).up l36).up l42).up l49).up l95).up l103).rd.dye 5).sub (M := [0]) rfl
    have a116 := a107.t l112
    cases hm
    rw [← ew112.trans (ew103)]
    exact Cw.ret (retA2 rfl ((b95.up l103).up l112) rfl (Res.mk a116 ⟨v0_0_28, v0_1_28, rfl, s113, s114⟩))
  ·refine rg (la b46 (ms rfl (ca hm (fun _ => p130 (Repo.rd (K := [0]) x0.Commits x0.Heads (h0_0.ul a43) (h0_1.ul a43))) fun z122 W124 hm l124 => Lw.ge rfl (mb rfl (bs hm (fun hc131 hm => ?_) fun hc131 hm => ?_)))))
   ·exact psk 3 hc131 rfl (Pb hc131 rfl (nl ((ag) ⟨true, W124, rfl, l124, rfl, hm⟩)))
   ·refine wak 3 hc131 (la (b42.up l124) ?_)
    have s132 := s29.up ((l36.sub (M := [6]) rfl).trans ((l42.sub (M := [6]) rfl).trans (l124.sub (M := [6]) rfl))) rfl
    have s133 := s30.up ((l36.sub (M := [6]) rfl).trans ((l42.sub (M := [6]) rfl).trans (l124.sub (M := [6]) rfl))) rfl
    exact ca hm (fun _ => p74 (K := [0, 4, 5]) (Repo.rd (K := [0, 4, 5]) z26.Commits z26.Heads s132 s133)) fun z134 W136 hm l136 => Lw.r rfl (R.not rfl) (Pb hc131 rfl (nl ((ag) ⟨(!z134), W136, rfl, (l124.j l136).w, rfl, hm⟩)))
theorem p60 {x0 v0_0_ v0_1_ x1 x2 r} (h0 : Rd W K [v0_0_, v0_1_] x0) (hm : Vm.spec_RepoBranch x0 x1 x2 = some r) : Q1 60 [.agg [v0_0_, v0_1_].toArray, vS x1, vI x2] W [] fun W' v => ∃ u0_0 u0_1, v = .tuple [.agg [u0_0, u0_1].toArray, vB r.2].toArray ∧ Rd W' (0 :: K) [u0_0] r.1.Commits ∧ Rd W' (0 :: K) [u0_1] r.1.Heads :=
 (c60 (h0.view _) hm).ad (fk 0) fun _ _ ⟨u0_0, u0_1, e, f0, f1⟩ => ⟨u0_0, u0_1, e, f0.back rfl, f1.back rfl⟩
theorem c106 {x0 v0_0_ v0_1_ x1 r} (h0 : Rd W0 [0] [v0_0_, v0_1_] x0) (hm : Vm.spec_l8All x0 x1 = some r) : Q0 106 [.agg [v0_0_, v0_1_].toArray, vI x1] W0 fun Wf v => ∃ u0, v = u0 ∧ OwS Wf LL [] [u0] r := by
 unfold Vm.spec_l8All at hm
 obtain ⟨w0_0, w0_1, he0, h0_0, h0_1⟩ := Repo.split h0
 simp only [List.cons.injEq, and_true, true_and] at he0
 obtain ⟨rfl, rfl⟩ := he0
 refine CallR.of Tryz.func106 rfl rfl rfl rfl (sr (bo 2 rfl fun g1 W1 l1 b1 => ?_))
 have a2 := l1.o
 refine Nv (.slice none 0 0) rfl (sr (fl b1 rfl (Lw.ln x0.Commits (h0_0.ul a2) rfl ?_)))
 obtain ⟨q4, e5, hm⟩ := ob hm
 refine Lw.t rfl (T.mk (α := Bool) 3 [] (n := (x0.Commits.length : Int)) rfl rfl e5) ?_
 rintro v6 _ ⟨W6, rfl, l6, o6⟩
 have a7 := a2.n l6
 refine Nv v6 rfl (sr (mv v6 rfl (mi rfl ?_)))
 obtain ⟨u9, e10, hm⟩ := ob hm
 refine Lw.r rfl (R.ix (α := Bool) o6.rd e10 rfl rfl rfl) ?_
 obtain ⟨q12, e13, hm⟩ := ob hm
 refine Lw.u (T.stS (K' := []) o6 (rdB _) e13 rfl rfl rfl) ?_
 rintro _ _ ⟨W11, rfl, l11, o11⟩
 have a14 := a7.t l11
 refine nl (ssr (mi rfl (Ni rfl (Cw.block ?_))))
 obtain ⟨K21, hK21, hm⟩ := jn_e hm
 refine Cw.loop 18 49 [6, 7] (fun m l w => ∃ y16 y18 j17 W20, CW.w W20 = w ∧ Le [3] W11 W20 ∧ l = [vI y16, j17] ∧ Ow W20 3 [] [v6] y18 ∧ Vm.spec_l8All_l1 x0 K21 m y16 y18 = some r) _ ⟨x1, q12, undef, W11, rfl, Le.refl _ _, rfl, o11, hm⟩ ?_
 rintro (_ | m22) _ _ σ ⟨y16, y18, j17, W20, rfl, l20, rfl, o19, hm⟩
 ·cases hm
 unfold Vm.spec_l8All_l1 at hm
 have a23 := a14.t l20
 refine ssr (mi rfl (Lw.ge rfl (nl (cn hm (fun hm => ?_) fun hm => ?_))))
 ·refine sk (Cw.seq (Cw.block (sr (Ni rfl (Cw.block ?_)))))
  obtain ⟨K30, hK30, hm⟩ := jn_e hm
  refine Cw.loop 22 49 [7] (fun m l w => ∃ y26 y27 W29, CW.w W29 = w ∧ Le [3] W20 W29 ∧ l = [vI y26] ∧ Ow W29 3 [] [v6] y27 ∧ Vm.spec_l8All_l2 x0 y16 K30 m y26 y27 = some r) _ ⟨0, y18, W20, rfl, Le.refl _ _, rfl, o19, hm⟩ ?_
  rintro (_ | m31) _ _ σ ⟨y26, y27, W29, rfl, l29, rfl, o28, hm⟩
  ·cases hm
  unfold Vm.spec_l8All_l2 at hm
  have a32 := a23.t l29
  have b33 := (((b1.up l6).up l11).up l20).up l29
  refine Cw.seq ?_
  obtain ⟨K36, hK36, hm⟩ := jn_e hm
  refine Cw.join 22 36 [36] (fun l w => ∃ y34 W35, CW.w W35 = w ∧ Le [] W29 W35 ∧ l = [vB y34] ∧ K36 y34 = some r) ?_ ?_
  ·rintro _ _ σ ⟨y34, W35, rfl, l35, rfl, hm⟩
   rw [hK36] at hm
   have a37 := a32.n l35
   have o38 := o28.up l35
   refine cn hm (fun hm => ?_) fun hm => ?_
   ·refine sk (Cw.seq (Cw.block (rg (mv v6 rfl (fl (b33.up l35) rfl (mi rfl ?_))))))
    obtain ⟨u41, e42, hm⟩ := ob hm
    refine Lw.r rfl (R.ix (α := Commit) (h0_0.ul a37) e42 rfl rfl rfl) (Lw.fa rfl ?_)
    obtain ⟨v44, c45, r46⟩ := (Commit.at0 ((h0_0.ul a37).at_ e42)).cell rfl
    refine Lw.r rfl (R.ld rfl rfl c45) (mi rfl ?_)
    obtain ⟨u47, e48, hm⟩ := ob hm
    refine Lw.r rfl (R.ix (α := Int) r46 e48 rfl rfl rfl) (Lw.r rfl (R.ld rfl rfl (r46.at_ e48).int) ?_)
    obtain ⟨u49, e50, hm⟩ := ob hm
    refine Lw.r rfl (R.ix (α := Bool) o38.rd e50 rfl rfl rfl) ?_
    obtain ⟨q52, e53, hm⟩ := ob hm
    refine Lw.u (T.stS (K' := []) o38 (rdB _) e53 rfl rfl rfl) ?_
    rintro _ _ ⟨W51, rfl, l51, o51⟩
    exact nl (rg (mi rfl (Lw.add rfl (Ni rfl ((agm) ⟨w64 (y26 + 1), q52, W51, rfl, ((l29.j l35).j l51).w, rfl, o51, hm⟩)))))
   ·refine Cw.exit ?_
    rw [hK30] at hm
    exact rg (mi rfl (Lw.sub rfl (Ni rfl ((agm) ⟨w64 (y16 - 1), y27, vI y26, W35, rfl, ((l20.j l29).j l35).w, rfl, o38, hm⟩))))
  ·refine rg (mi rfl (fl b33 rfl (mi rfl ?_)))
   obtain ⟨u56, e57, hm⟩ := ob hm
   refine Lw.r rfl (R.ix (α := Commit) (h0_0.ul a32) e57 rfl rfl rfl) (Lw.fa rfl ?_)
   obtain ⟨v59, c60, r61⟩ := (Commit.at0 ((h0_0.ul a32).at_ e57)).cell rfl
   refine Lw.r rfl (R.ld rfl rfl c60) (Lw.ln u56.Parents r61 rfl (Lw.lt rfl (mb rfl (bs hm (fun hc62 hm => ?_) fun hc62 hm => ?_))))
   ·refine wak 4 hc62 (mv v6 rfl (mi rfl ?_))
    obtain ⟨u63, e64, hm⟩ := ob hm
    exact Lw.r rfl (R.ix (α := Bool) o28.rd e64 rfl rfl rfl) (Lw.r rfl (R.ld rfl rfl (o28.rd.at_ e64).bool) (Pb hc62 rfl (nl ((ag) ⟨u63, W29, rfl, Le.refl _ _, rfl, hm⟩))))
   ·exact psk 4 hc62 rfl (Pb hc62 rfl (nl ((ag) ⟨false, W29, rfl, Le.refl _ _, rfl, hm⟩)))
 ·refine Cw.exit ?_
  rw [hK21] at hm
  refine sr (Lw.t rfl (T.lit0 (α := Int) 4 []) ?_)
  rintro v65 _ ⟨W65, rfl, l65, o65⟩
  have a66 := a23.n l65
  refine Nv v65 rfl (ssr (Ni rfl (Cw.block ?_)))
  obtain ⟨K74, hK74, hm⟩ := jn_e hm
  refine Cw.loop 51 64 [8, 9] (fun m l w => ∃ y69 y72 v70 W73, CW.w W73 = w ∧ Le [4] W65 W73 ∧ l = [v70, vI y72] ∧ Ow W73 4 [] [v70] y69 ∧ Vm.spec_l8All_l3 y18 K74 m y69 y72 = some r) _ ⟨([] : List Int), 0, v65, W65, rfl, Le.refl _ _, rfl, o65, hm⟩ ?_
  rintro (_ | m75) _ _ σ ⟨y69, y72, v70, W73, rfl, l73, rfl, o71, hm⟩
  ·cases hm
  unfold Vm.spec_l8All_l3 at hm
  have a76 := a66.t l73
  have o77 := (o19.up l65).up l73
  refine ssr (mi rfl (mv v6 rfl (Lw.ln y18 o77.rd rfl (Lw.lt rfl (nl (cn hm (fun hm => ?_) fun hm => ?_))))))
  ·refine sk ?_
   obtain ⟨K84, hK84, hm⟩ := jn_e hm
   refine Cw.join 57 64 [8] (fun l w => ∃ y80 v81 W83, CW.w W83 = w ∧ Le [4] W73 W83 ∧ l = [v81] ∧ Ow W83 4 [] [v81] y80 ∧ K84 y80 = some r) ?_ ?_
   ·rintro _ _ σ ⟨y80, v81, W83, rfl, l83, rfl, o82, hm⟩
    rw [hK84] at hm
    exact rg (mi rfl (Lw.add rfl (Ni rfl ((agm) ⟨y80, w64 (y72 + 1), v81, W83, rfl, (l73.j l83).w, rfl, o82, hm⟩))))
   ·refine Cw.block (sr (mv v6 rfl (mi rfl ?_)))
    obtain ⟨u88, e89, hm⟩ := ob hm
    refine Lw.r rfl (R.ix (α := Bool) o77.rd e89 rfl rfl rfl) (Lw.r rfl (R.ld rfl rfl (o77.rd.at_ e89).bool) (nl (cn hm (fun hm => ?_) fun hm => ?_)))
    ·refine rg (mv v70 rfl (mi rfl (Lw.t rfl (T.bs 5 [vI y72] (cs := [vI y72]) rfl rfl (bsv rfl)) ?_)))
     rintro _ _ ⟨g91, W91, rfl, rfl, l91, b91⟩
     obtain ⟨q96, e97, hm⟩ := ob hm
     refine Lw.t rfl (T.app1S (α := Int) (K' := []) (o71.up l91) b91 (rdI _) rfl rfl e97) ?_
     rintro v98 _ ⟨W98, rfl, l98, o98⟩
     exact Nv v98 rfl ((ag) ⟨q96, v98, W98, rfl, (l91.j l98).w, rfl, o98, hm⟩)
    ·exact sk ((ag) ⟨y69, v70, W73, rfl, Le.refl _ _, rfl, o71, hm⟩)
  ·refine Cw.exit ?_
   rw [hK74] at hm
   refine sr (mv v70 rfl (Nv v70 rfl ?_))
   cases hm
   exact Cw.ret (ret1 rfl (Res.mk a76 ⟨v70, rfl, o71.s.sub rfl rfl⟩))
theorem p106 {x0 v0_0_ v0_1_ x1 k0 r} (h0 : Rd W K [v0_0_, v0_1_] x0) (hm : Vm.spec_l8All x0 x1 = some r) : Q1 106 [.agg [v0_0_, v0_1_].toArray, vI x1] W [] fun W' v => ∃ u0, v = u0 ∧ Ow W' k0 [] [u0] r :=
 (c106 (h0.view _) hm).ad (fk k0) fun _ _ ⟨u0, e, f0⟩ => ⟨u0, e, f0.back (fk_LL _)⟩
theorem c172 {x0 v0_ x1 r} (h0 : Rd W0 [0] [v0_] x0) (hm : Vm.spec_l8Has x0 x1 = some r) : Q0 172 [v0_, vI x1] W0 fun Wf v => v = vB r := by
 unfold Vm.spec_l8Has at hm
 refine CallR.of Tryz.func172 rfl rfl rfl rfl (sr (Nb rfl (ssr (Ni rfl (Cw.block ?_)))))
 obtain ⟨K4, hK4, hm⟩ := jn_e hm
 refine Cw.loop 6 17 [4, 5] (fun m l w => ∃ y1 y2 W3, CW.w W3 = w ∧ Le [] W0 W3 ∧ l = [vB y1, vI y2] ∧ Vm.spec_l8Has_l1 x0 x1 K4 m y1 y2 = some r) _ ⟨false, 0, W0, rfl, Le.refl _ _, rfl, hm⟩ ?_
 rintro (_ | m5) _ _ σ ⟨y1, y2, W3, rfl, l3, rfl, hm⟩
 ·cases hm
 unfold Vm.spec_l8Has_l1 at hm
 have a6 := l3.o
 refine ssr ?_
 have s7 := h0.ul a6
 refine mi rfl (mv v0_ rfl (Lw.ln x0 s7 rfl (Lw.lt rfl (nl (cn hm (fun hm => ?_) fun hm => ?_)))))
 ·refine sk (Cw.seq (Cw.block (sr (mv v0_ rfl (mi rfl ?_)))))
  obtain ⟨u9, e10, hm⟩ := ob hm
  refine Lw.r rfl (R.ix (α := Int) s7 e10 rfl rfl rfl) (Lw.r rfl (R.ld rfl rfl (s7.at_ e10).int) (mi rfl (Lw.eq rfl (nl (cn hm (fun hm => ?_) fun hm => ?_)))))
  ·exact sr (Nb rfl (.ret (rt hm a6)))
  ·exact sk (rg (mi rfl (Lw.add rfl (Ni rfl ((agm) ⟨y1, w64 (y2 + 1), W3, rfl, l3, rfl, hm⟩)))))
 ·refine Cw.exit ?_
  rw [hK4] at hm
  exact sr (Nb rfl (.ret (rt hm a6)))
theorem p172 {x0 v0_ x1 r} (h0 : Rd W K [v0_] x0) (hm : Vm.spec_l8Has x0 x1 = some r) : Q1 172 [v0_, vI x1] W [] fun W' v => v = vB r :=
 (c172 (h0.view _) hm).ad (fk 0) fun _ _ e => e
theorem c215 {x0 v0_0_ v0_1_ x1 x2 r} (h0 : Rd W0 [0] [v0_0_, v0_1_] x0) (hm : Vm.spec_l8Bases x0 x1 x2 = some r) : Q0 215 [.agg [v0_0_, v0_1_].toArray, vI x1, vI x2] W0 fun Wf v => ∃ u0, v = u0 ∧ OwS Wf LL [] [u0] r := by
 unfold Vm.spec_l8Bases at hm
 obtain ⟨w0_0, w0_1, he0, h0_0, h0_1⟩ := Repo.split h0
 simp only [List.cons.injEq, and_true, true_and] at he0
 obtain ⟨rfl, rfl⟩ := he0
 refine CallR.of Tryz.func215 rfl rfl rfl rfl (sr (bo 2 rfl fun g1 W1 l1 b1 => ?_))
 have a2 := l1.o
 refine Nv (.slice none 0 0) rfl (sr (la b1 (mi rfl (cr hm (fun _ => p106 (k0 := 3) (Repo.rd (K := [0]) x0.Commits x0.Heads (h0_0.ul a2) (h0_1.ul a2))) ?_))))
 rintro z5 v0_7 W7 hm l7 ⟨_, rfl, f7_0⟩
 have a8 := a2.n l7
 refine Nv v0_7 rfl (sr (la (b1.up l7) (mi rfl (cr hm (fun _ => p106 (k0 := 4) (Repo.rd (K := [0]) x0.Commits x0.Heads (h0_0.ul a8) (h0_1.ul a8))) ?_))))
 rintro z12 v0_14 W14 hm l14 ⟨_, rfl, f14_0⟩
 have a15 := a8.n l14
 refine Nv v0_14 rfl (sr (Lw.t rfl (T.lit0 (α := Int) 5 []) ?_))
 rintro v18 _ ⟨W18, rfl, l18, o18⟩
 have a19 := a15.n l18
 refine Nv v18 rfl (ssr (Ni rfl (Cw.block ?_)))
 obtain ⟨K28, hK28, hm⟩ := jn_e hm
 refine Cw.loop 22 40 [9, 10] (fun m l w => ∃ y23 y26 v24 W27, CW.w W27 = w ∧ Le [5] W18 W27 ∧ l = [v24, vI y26] ∧ Ow W27 5 [] [v24] y23 ∧ Vm.spec_l8Bases_l1 z5 z12 K28 m y23 y26 = some r) _ ⟨([] : List Int), 0, v18, W18, rfl, Le.refl _ _, rfl, o18, hm⟩ ?_
 rintro (_ | m29) _ _ σ ⟨y23, y26, v24, W27, rfl, l27, rfl, o25, hm⟩
 ·cases hm
 unfold Vm.spec_l8Bases_l1 at hm
 have a30 := a19.t l27
 have o31 := ((f7_0.up l14).up l18).up l27
 refine ssr (mi rfl (mv v0_7 rfl (Lw.ln z5 o31.rd rfl (Lw.lt rfl (nl (cn hm (fun hm => ?_) fun hm => ?_))))))
 ·refine sk ?_
  obtain ⟨K39, hK39, hm⟩ := jn_e hm
  refine Cw.join 28 40 [9] (fun l w => ∃ y35 v36 W38, CW.w W38 = w ∧ Le [5] W27 W38 ∧ l = [v36] ∧ Ow W38 5 [] [v36] y35 ∧ K39 y35 = some r) ?_ ?_
  ·rintro _ _ σ ⟨y35, v36, W38, rfl, l38, rfl, o37, hm⟩
   rw [hK39] at hm
   exact rg (mi rfl (Lw.add rfl (Ni rfl ((agm) ⟨y35, w64 (y26 + 1), v36, W38, rfl, (l27.j l38).w, rfl, o37, hm⟩))))
  ·refine Cw.block (sr (mv v0_14 rfl (mv v0_7 rfl (mi rfl ?_))))
   obtain ⟨u44, e45, hm⟩ := ob hm
   refine Lw.r rfl (R.ix (α := Int) o31.rd e45 rfl rfl rfl) (Lw.r rfl (R.ld rfl rfl (o31.rd.at_ e45).int) (ca hm (fun _ => p172 (K := [4]) ((f14_0.up l18).up l27).rd) fun z46 W48 hm l48 => nl (cn hm (fun hm => ?_) fun hm => ?_)))
   ·refine rg (mv v24 rfl (mv v0_7 rfl (mi rfl ?_)))
    obtain ⟨u55, e56, hm⟩ := ob hm
    refine Lw.r rfl (R.ix (α := Int) (o31.up l48).rd e56 rfl rfl rfl) (Lw.r rfl (R.ld rfl rfl ((o31.up l48).rd.at_ e56).int) (Lw.t rfl (T.bs 6 [vI u55] (cs := [vI u55]) rfl rfl (bsv rfl)) ?_))
    rintro _ _ ⟨g57, W57, rfl, rfl, l57, b57⟩
    obtain ⟨q63, e64, hm⟩ := ob hm
    refine Lw.t rfl (T.app1S (α := Int) (K' := []) ((o25.up l48).up l57) b57 (rdI _) rfl rfl e64) ?_
    rintro v65 _ ⟨W65, rfl, l65, o65⟩
    exact Nv v65 rfl ((ag) ⟨q63, v65, W65, rfl, ((l48.j l57).j l65).w, rfl, o65, hm⟩)
   ·exact sk ((ag) ⟨y23, v24, W48, rfl, l48.w, rfl, (o25.up l48), hm⟩)
 ·refine Cw.exit ?_
  rw [hK28] at hm
  refine sr (Lw.t rfl (T.lit0 (α := Int) 7 []) ?_)
  rintro v71 _ ⟨W71, rfl, l71, o71⟩
  have a72 := a30.n l71
  refine Nv v71 rfl (ssr (Ni rfl (Cw.block ?_)))
  obtain ⟨K84, hK84, hm⟩ := jn_e hm
  refine Cw.loop 42 81 [11, 12, 13, 14] (fun m l w => ∃ y77 y80 v78 j81 j82 W83, CW.w W83 = w ∧ Le [7] W71 W83 ∧ l = [v78, vI y80, j81, j82] ∧ Ow W83 7 [] [v78] y77 ∧ Vm.spec_l8Bases_l2 x0 y23 K84 m y77 y80 = some r) _ ⟨([] : List Int), 0, v71, undef, undef, W71, rfl, Le.refl _ _, rfl, o71, hm⟩ ?_
  rintro (_ | m85) _ _ σ ⟨y77, y80, v78, j81, j82, W83, rfl, l83, rfl, o79, hm⟩
  ·cases hm
  unfold Vm.spec_l8Bases_l2 at hm
  have a86 := a72.t l83
  have o89 := (o25.up l71).up l83
  refine ssr (mi rfl (mv v24 rfl (Lw.ln y23 o89.rd rfl (Lw.lt rfl (nl (cn hm (fun hm => ?_) fun hm => ?_))))))
  ·refine sk ?_
   obtain ⟨K98, hK98, hm⟩ := jn_e hm
   refine Cw.join 48 81 [11, 13, 14] (fun l w => ∃ y92 v93 j95 j96 W97, CW.w W97 = w ∧ Le [7] W83 W97 ∧ l = [v93, j95, j96] ∧ Ow W97 7 [] [v93] y92 ∧ K98 y92 = some r) ?_ ?_
   ·rintro _ _ σ ⟨y92, v93, j95, j96, W97, rfl, l97, rfl, o94, hm⟩
    rw [hK98] at hm
    exact rg (mi rfl (Lw.add rfl (Ni rfl ((agm) ⟨y92, w64 (y80 + 1), v93, j95, j96, W97, rfl, (l83.j l97).w, rfl, o94, hm⟩))))
   ·refine Cw.block (sr (Nb rfl (ssr (Ni rfl (Cw.block ?_)))))
    obtain ⟨K107, hK107, hm⟩ := jn_e hm
    refine Cw.loop 48 73 [13, 14] (fun m l w => ∃ y104 y105 W106, CW.w W106 = w ∧ Le [] W83 W106 ∧ l = [vB y104, vI y105] ∧ Vm.spec_l8Bases_l3 x0 y23 y80 K107 m y104 y105 = some r) _ ⟨true, 0, W83, rfl, Le.refl _ _, rfl, hm⟩ ?_
    rintro (_ | m108) _ _ σ ⟨y104, y105, W106, rfl, l106, rfl, hm⟩
    ·cases hm
    unfold Vm.spec_l8Bases_l3 at hm
    have a109 := a86.n l106
    have o112 := o89.up l106
    refine ssr (mi rfl (mv v24 rfl (Lw.ln y23 o112.rd rfl (Lw.lt rfl (nl (cn hm (fun hm => ?_) fun hm => ?_))))))
    ·refine sk (Cw.seq (Cw.block (Cw.draw [] [(0, 0), (1, 0), (2, 0), (3, 0), (4, 0), (5, 0), (6, 1), (7, 0), (8, 0), (9, 0), (10, 1), (12, 0), (13, 0), (14, 0), (15, 1), (11, 2), (16, 2), (17, 0), (18, 0), (19, 0), (20, 0)] mixed (by kernel_rfl) fun W116 l116 => ?_)))
     have a117 := a109.n l116
     have o120 := o112.up l116
     refine Db rfl (Db rfl (bs hm (fun hc123 hm => ?_) fun hc123 hm => ?_))
     ·refine Wp hc123 rfl (fun _ => R.mv (v := vI y105) rfl) (Wp hc123 rfl (fun _ => R.mv (v := vI y80) rfl) (Wp hc123 rfl (fun _ => R.eq rfl rfl) (Wp hc123 rfl (fun _ => R.mv (v := vB ((y105 : Int) == (y80 : Int))) rfl) (bs hm (fun hc124 hm => ?_) fun hc124 hm => ?_))))
      ·exact dps 12 hc124 rfl (Wp hc123 rfl (fun _ => R.pk hc124 rfl (v := vB true) rfl) (Mw.p rfl rfl (fun _ => R.pk hc123 rfl (v := vB true) rfl) (Hb rfl (Mw.nil (rg (mi rfl (Lw.add rfl (Ni rfl ((agm) ⟨true, w64 (y105 + 1), W116, rfl, (l106.j l116).w, rfl, hm⟩)))))))))
      ·refine Wq hc124 rfl (fun _ c => R.lda (cs := [v0_0_, v0_1_]) (((((((((b1.up l7).up l14).up l18).up l27).up l71).up l83).up l106).up l116).clcs rfl c) rfl rfl) (Wp hc124 rfl (fun _ => R.mv (v := v24) rfl) (Wp hc124 rfl (fun _ => R.mv (v := vI y105) rfl) ?_))
       obtain ⟨u125, e126, hm⟩ := ob hm
       refine Wp hc124 rfl (fun _ => R.ix (α := Int) o120.rd e126 rfl rfl rfl) (Wq hc124 rfl (fun _ c => R.ld rfl rfl (cl_cell (o120.rd.at_ e126).1 rfl (o120.rd.at_ e126).int c)) (Wp hc124 rfl (fun _ => R.mv (v := v24) rfl) (Wp hc124 rfl (fun _ => R.mv (v := vI y80) rfl) ?_)))
       obtain ⟨u127, e128, hm⟩ := ob hm
       refine Wp hc124 rfl (fun _ => R.ix (α := Int) o120.rd e128 rfl rfl rfl) (Wq hc124 rfl (fun _ c => R.ld rfl rfl (cl_cell (o120.rd.at_ e128).1 rfl (o120.rd.at_ e128).int c)) ?_)
       obtain ⟨z131, e132, hm⟩ := ob hm
       refine Wt hc124 rfl (T.call rfl (p106 (k0 := 8) (Repo.rd (K := [0]) x0.Commits x0.Heads (h0_0.ul a117) (h0_1.ul a117)) e132)) ?_
       rintro v0_133 _ ⟨W133, rfl, l133, ⟨_, rfl, f133_0⟩⟩
       refine m0 l133 fun d133 => ?_
       obtain ⟨z140, e141, hm⟩ := ob hm
       refine Wt hc124 rfl (T.call rfl (p172 (K := [8])  f133_0.rd e141)) ?_
       rintro _ _ ⟨W142, rfl, l142, rfl⟩
       exact mc d133 l142 fun d142 => Wp hc124 rfl (fun _ => R.not rfl) (Wp hc123 rfl (fun _ => R.pk hc124 rfl (v := vB (!z140)) rfl) (Mw.p rfl rfl (fun _ => R.pk hc123 rfl (v := vB (!z140)) rfl) (Hb rfl (Mw.nil (rg (mi rfl (Lw.add rfl (Ni rfl ((agm) ⟨(!z140), w64 (y105 + 1), W142, rfl, (((l106.j l116).j l133).j l142).w, rfl, hm⟩)))))))))
     ·exact dps 4 hc123 rfl (dpu 12 rfl (dps 1 hc123 rfl (Mw.p rfl rfl (fun _ => R.pk hc123 rfl (v := vB false) rfl) (Hb rfl (Mw.nil (rg (mi rfl (Lw.add rfl (Ni rfl ((agm) ⟨false, w64 (y105 + 1), W116, rfl, (l106.j l116).w, rfl, hm⟩))))))))))
    ·refine Cw.exit ?_
     rw [hK107] at hm
     refine sr (mb rfl (nl (cn hm (fun hm => ?_) fun hm => ?_)))
     ·refine rg (mv v78 rfl (mv v24 rfl (mi rfl ?_)))
      obtain ⟨u151, e152, hm⟩ := ob hm
      refine Lw.r rfl (R.ix (α := Int) o112.rd e152 rfl rfl rfl) (Lw.r rfl (R.ld rfl rfl (o112.rd.at_ e152).int) (Lw.t rfl (T.bs 9 [vI u151] (cs := [vI u151]) rfl rfl (bsv rfl)) ?_))
      rintro _ _ ⟨g153, W153, rfl, rfl, l153, b153⟩
      obtain ⟨q160, e161, hm⟩ := ob hm
      refine Lw.t rfl (T.app1S (α := Int) (K' := []) ((o79.up l106).up l153) b153 (rdI _) rfl rfl e161) ?_
      rintro v162 _ ⟨W162, rfl, l162, o162⟩
      exact Nv v162 rfl ((ag) ⟨q160, v162, vB y104, vI y105, W162, rfl, ((l106.j l153).j l162).w, rfl, o162, hm⟩)
     ·exact sk ((ag) ⟨y77, v78, vB y104, vI y105, W106, rfl, l106.w, rfl, (o79.up l106), hm⟩)
  ·refine Cw.exit ?_
   rw [hK84] at hm
   refine sr (mv v78 rfl (Nv v78 rfl ?_))
   cases hm
   exact Cw.ret (ret1 rfl (Res.mk a86 ⟨v78, rfl, o79.s.sub rfl rfl⟩))
theorem p215 {x0 v0_0_ v0_1_ x1 x2 k0 r} (h0 : Rd W K [v0_0_, v0_1_] x0) (hm : Vm.spec_l8Bases x0 x1 x2 = some r) : Q1 215 [.agg [v0_0_, v0_1_].toArray, vI x1, vI x2] W [] fun W' v => ∃ u0, v = u0 ∧ Ow W' k0 [] [u0] r :=
 (c215 (h0.view _) hm).ad (fk k0) fun _ _ ⟨u0, e, f0⟩ => ⟨u0, e, f0.back (fk_LL _)⟩
theorem c208 {x0 v0_0_ v0_1_ x1 x2 r} (h0 : Rd W0 [0] [v0_0_, v0_1_] x0) (hm : Vm.spec_l9Base x0 x1 x2 = some r) : Q0 208 [.agg [v0_0_, v0_1_].toArray, vI x1, vI x2] W0 fun Wf v => ∃ u0, v = u0 ∧ Rd Wf [0] [u0] r := by
 unfold Vm.spec_l9Base at hm
 obtain ⟨w0_0, w0_1, he0, h0_0, h0_1⟩ := Repo.split h0
 simp only [List.cons.injEq, and_true, true_and] at he0
 obtain ⟨rfl, rfl⟩ := he0
 refine CallR.of Tryz.func208 rfl rfl rfl rfl (sr (bo 2 rfl fun g1 W1 l1 b1 => ?_))
 have a2 := l1.o
 refine Nv (.slice none 0 0) rfl (sr (la b1 (mi rfl (mi rfl (cr hm (fun _ => p215 (k0 := 3) (Repo.rd (K := [0]) x0.Commits x0.Heads (h0_0.ul a2) (h0_1.ul a2))) ?_)))))
 rintro z5 v0_7 W7 hm l7 ⟨_, rfl, f7_0⟩
 have a8 := a2.n l7
 refine Nv v0_7 rfl (ssr (mv v0_7 rfl (Lw.ln z5 f7_0.rd rfl (Lw.eq rfl (nl (cn hm (fun hm => ?_) fun hm => ?_))))))
 ·refine sr (Nv (.slice none 0 0) rfl ?_)
  cases hm
  exact Cw.ret (ret1 rfl (Res.mk a8 ⟨.slice none 0 0, rfl, (rdN (K := [0]))⟩))
 ·refine sk (Cw.seq (Cw.draw [] [(0, 0), (1, 1), (2, 0), (3, 0), (4, 0), (5, 0), (6, 0), (7, 1), (8, 0), (9, 0), (10, 1), (11, 0)] mixed (by kernel_rfl) fun W11 l11 => ?_))
  have a12 := a8.n l11
  have o13 := f7_0.up l11
  refine Dfl ((b1.up l7).up l11) rfl rfl rfl (Dv v0_7 rfl (Dv v0_7 rfl (Mw.p rfl rfl (fun _ => lenR (xs := z5) o13.rd rfl) (Mw.p rfl rfl (fun _ => R.sub rfl rfl) ?_))))
  obtain ⟨u15, e16, hm⟩ := ob hm
  refine Mw.p rfl rfl (fun _ => R.ix (α := Int) o13.rd e16 rfl rfl rfl) (Mw.q rfl rfl (fun _ c => R.ld rfl rfl (cl_cell (o13.rd.at_ e16).1 rfl (o13.rd.at_ e16).int c)) ?_)
  obtain ⟨u17, e18, hm⟩ := ob hm
  have s19 := h0_0.ul a12
  refine Mw.p rfl rfl (fun _ => R.ix (α := Commit) s19 e18 rfl rfl rfl) (Df rfl ?_)
  obtain ⟨v20, c21, r22⟩ := (Commit.at2 (s19.at_ e18)).cell rfl
  refine Mw.q rfl rfl (fun _ c => R.ld rfl rfl (cl_cell (Commit.at2 (s19.at_ e18)).1 rfl c21 c)) (Hv v20 rfl (Mw.nil ?_))
  cases hm
  exact Cw.ret (ret1 rfl (Res.mk a12 ⟨v20, rfl, r22⟩))
theorem p208 {x0 v0_0_ v0_1_ x1 x2 r} (h0 : Rd W K [v0_0_, v0_1_] x0) (hm : Vm.spec_l9Base x0 x1 x2 = some r) : Q1 208 [.agg [v0_0_, v0_1_].toArray, vI x1, vI x2] W [] fun W' v => ∃ u0, v = u0 ∧ Rd W' (0 :: K) [u0] r :=
 (c208 (h0.view _) hm).ad (fk 0) fun _ _ ⟨u0, e, f0⟩ => ⟨u0, e, f0.back rfl⟩
theorem c220 {x0 v0_ x1 r} (h0 : Rd W0 [0] [v0_] x0) (hm : Vm.spec_l5Put x0 x1 = some r) : Q0 220 [v0_, vS x1] W0 fun Wf v => ∃ u0, v = u0 ∧ Rd Wf [0] [u0] r := by
 unfold Vm.spec_l5Put at hm
 refine CallR.of Tryz.func220 rfl rfl rfl rfl (sr (Nv (.slice none 0 0) rfl (sr (Ni rfl (Cw.seq (Cw.block ?_))))))
 obtain ⟨K3, hK3, hm⟩ := jn_e hm
 refine Cw.loop 7 20 [5] (fun m l w => ∃ y1 W2, CW.w W2 = w ∧ Le [] W0 W2 ∧ l = [vI y1] ∧ Vm.spec_l5Put_l1 x0 x1 K3 m y1 = some r) _ ⟨0, W0, rfl, Le.refl _ _, rfl, hm⟩ ?_
 rintro (_ | m4) _ _ σ ⟨y1, W2, rfl, l2, rfl, hm⟩
 ·cases hm
 unfold Vm.spec_l5Put_l1 at hm
 have a5 := l2.o
 refine Cw.seq ?_
 obtain ⟨K8, hK8, hm⟩ := jn_e hm
 refine Cw.join 7 18 [18] (fun l w => ∃ y6 W7, CW.w W7 = w ∧ Le [] W2 W7 ∧ l = [vB y6] ∧ K8 y6 = some r) ?_ ?_
 ·rintro _ _ σ ⟨y6, W7, rfl, l7, rfl, hm⟩
  rw [hK8] at hm
  have a9 := a5.n l7
  refine cn hm (fun hm => ?_) fun hm => ?_
  ·exact sk (Cw.block (rg (mi rfl (Lw.add rfl (Ni rfl ((agm) ⟨w64 (y1 + 1), W7, rfl, (l2.j l7).w, rfl, hm⟩))))))
  ·refine Cw.exit ?_
   rw [hK3] at hm
   refine Cw.seq ?_
   obtain ⟨K13, hK13, hm⟩ := jn_e hm
   refine Cw.join 21 32 [32] (fun l w => ∃ y11 W12, CW.w W12 = w ∧ Le [] W7 W12 ∧ l = [vB y11] ∧ K13 y11 = some r) ?_ ?_
   ·rintro _ _ σ ⟨y11, W12, rfl, l12, rfl, hm⟩
    rw [hK13] at hm
    have a14 := a9.n l12
    refine cn hm (fun hm => ?_) fun hm => ?_
    ·refine sr (mv v0_ rfl (Nv v0_ rfl ?_))
     cases hm
     exact Cw.ret (ret1 rfl (Res.mk a14 ⟨v0_, rfl, (h0.ul a14)⟩))
    ·refine sk (sr (Lw.t rfl (T.lit0 (α := Str) 2 []) ?_))
     rintro v17 _ ⟨W17, rfl, l17, o17⟩
     have a18 := a14.n l17
     refine mv v0_ rfl (mi rfl ?_)
     obtain ⟨q19, e20, hm⟩ := ob hm
     have r23 := (h0.ul a18).cutV e20
     refine Lw.r rfl (R.sl (h0.ul a18) e20 rfl (.inl ⟨rfl, rfl⟩) (.inr rfl)) ?_
     obtain ⟨q24, e25, hm⟩ := ob hm
     refine Lw.t rfl (T.appP (α := Str) o17 r23 rfl rfl e25) ?_
     rintro v26 _ ⟨W26, rfl, l26, o26⟩
     have a27 := a18.t l26
     refine Nv v26 rfl (sr (mv v26 rfl (ms rfl (Lw.t rfl (T.bs 3 [vS x1] (cs := [vS x1]) rfl rfl (bsv rfl)) ?_))))
     rintro _ _ ⟨g28, W28, rfl, rfl, l28, b28⟩
     have a29 := a27.n l28
     obtain ⟨q31, e32, hm⟩ := ob hm
     refine Lw.t rfl (T.app1S (α := Str) (K' := []) (o26.up l28) b28 (rdS _) rfl rfl e32) ?_
     rintro v33 _ ⟨W33, rfl, l33, o33⟩
     have a34 := a29.t l33
     refine Nv v33 rfl (sr (mv v33 rfl (mv v0_ rfl (mi rfl ?_))))
     obtain ⟨q36, e37, hm⟩ := ob hm
     have r40 := (h0.ul a34).cutV e37
     refine Lw.r rfl (R.sl (h0.ul a34) e37 rfl (.inr rfl) (.inl ⟨rfl, rfl⟩)) ?_
     obtain ⟨q41, e42, hm⟩ := ob hm
     refine Lw.t rfl (T.appP (α := Str) o33 r40 rfl rfl e42) ?_
     rintro v43 _ ⟨W43, rfl, l43, o43⟩
     have a44 := a34.t l43
     refine Nv v43 rfl ?_
     obtain ⟨W46, ew46, l46, dj46⟩ := dyeE _ 2
     have s47 : Rd (α := List Str) W46 [0] [v43] q41 := by rw [dj46]; exact (o43.rd.dye 2).sub (M := [0]) rfl
     have a48 := a44.t l46
     cases hm
     rw [← ew46]
     exact Cw.ret (ret1 rfl (Res.mk a48 ⟨v43, rfl, s47⟩))
   ·refine rg (mi rfl (mv v0_ rfl (Lw.ln x0 (h0.ul a9) rfl (Lw.lt rfl (mb rfl (bs hm (fun hc51 hm => ?_) fun hc51 hm => ?_))))))
    ·refine wak 6 hc51 (mv v0_ rfl (mi rfl ?_))
     obtain ⟨u52, e53, hm⟩ := ob hm
     exact Lw.r rfl (R.ix (α := Str) (h0.ul a9) e53 rfl rfl rfl) (Lw.r rfl (R.ld rfl rfl ((h0.ul a9).at_ e53).str) (ms rfl (Lw.seq rfl (Pb hc51 rfl (nl ((ag) ⟨(u52 == x1), W7, rfl, Le.refl _ _, rfl, hm⟩))))))
    ·exact psk 6 hc51 rfl (Pb hc51 rfl (nl ((ag) ⟨false, W7, rfl, Le.refl _ _, rfl, hm⟩)))
 ·refine rg (mi rfl (mv v0_ rfl (Lw.ln x0 (h0.ul a5) rfl (Lw.lt rfl (mb rfl (bs hm (fun hc55 hm => ?_) fun hc55 hm => ?_))))))
  ·refine wak 6 hc55 (mv v0_ rfl (mi rfl ?_))
   obtain ⟨u56, e57, hm⟩ := ob hm
   exact Lw.r rfl (R.ix (α := Str) (h0.ul a5) e57 rfl rfl rfl) (Lw.r rfl (R.ld rfl rfl ((h0.ul a5).at_ e57).str) (ms rfl (Lw.r rfl (R.slt rfl rfl) (Pb hc55 rfl (nl ((ag) ⟨Op.bytesLess u56 x1, W2, rfl, Le.refl _ _, rfl, hm⟩))))))
  ·exact psk 6 hc55 rfl (Pb hc55 rfl (nl ((ag) ⟨false, W2, rfl, Le.refl _ _, rfl, hm⟩)))
theorem p220 {x0 v0_ x1 r} (h0 : Rd W K [v0_] x0) (hm : Vm.spec_l5Put x0 x1 = some r) : Q1 220 [v0_, vS x1] W [] fun W' v => ∃ u0, v = u0 ∧ Rd W' (0 :: K) [u0] r :=
 (c220 (h0.view _) hm).ad (fk 0) fun _ _ ⟨u0, e, f0⟩ => ⟨u0, e, f0.back rfl⟩
theorem c218 {x0 v0_ x1 v1_ x2 v2_ r} (h0 : Rd W0 [0] [v0_] x0) (h1 : Rd W0 [0] [v1_] x1) (h2 : Rd W0 [0] [v2_] x2) (hm : Vm.spec_l6Paths x0 x1 x2 = some r) : Q0 218 [v0_, v1_, v2_] W0 fun Wf v => ∃ u0, v = u0 ∧ Rd Wf [0] [u0] r := by
 unfold Vm.spec_l6Paths at hm
 refine CallR.of Tryz.func218 rfl rfl rfl rfl (sr (Nv (.slice none 0 0) rfl (sr (Lw.t rfl (T.lit0 (α := Str) 2 []) ?_))))
 rintro v1 _ ⟨W1, rfl, l1, o1⟩
 have a2 := l1.o
 refine Nv v1 rfl (ssr (Ni rfl (Cw.block ?_)))
 obtain ⟨W3, ew3, l3, dj3⟩ := dyeE _ 2
 rw [← ew3]
 have s4 : Rd (α := List Str) W3 [0] [v1] ([] : List Str) := by rw [dj3]; exact (o1.rd.dye 2).sub (M := [0]) rfl
 have a5 := a2.t l3
 obtain ⟨K11, hK11, hm⟩ := jn_e hm
 refine Cw.loop 12 24 [7, 8] (fun m l w => ∃ y6 y9 v7 W10, CW.w W10 = w ∧ Le [] W3 W10 ∧ l = [v7, vI y9] ∧ Rd W10 [0] [v7] y6 ∧ Vm.spec_l6Paths_l1 x0 K11 m y6 y9 = some r) _ ⟨([] : List Str), 0, v1, W3, rfl, Le.refl _ _, rfl, s4, hm⟩ ?_
 rintro (_ | m12) _ _ σ ⟨y6, y9, v7, W10, rfl, l10, rfl, r8, hm⟩
 ·cases hm
 unfold Vm.spec_l6Paths_l1 at hm
 have a13 := a5.n l10
 refine ssr (mi rfl (mv v0_ rfl (Lw.ln x0 (h0.ul a13) rfl (Lw.lt rfl (nl (cn hm (fun hm => ?_) fun hm => ?_))))))
 ·refine sk (Cw.seq (Cw.block (rg (mv v7 rfl (mv v0_ rfl (mi rfl ?_))))))
  obtain ⟨u16, e17, hm⟩ := ob hm
  refine Lw.r rfl (R.ix (α := File) (h0.ul a13) e17 rfl rfl rfl) (Lw.fa rfl (Lw.r rfl (R.ld rfl rfl (File.at0 ((h0.ul a13).at_ e17)).str) (cr hm (fun _ => p220 r8) ?_)))
  rintro z18 v0_20 W20 hm l20 ⟨_, rfl, f20_0⟩
  have s21 := f20_0.sub (M := [0]) rfl
  exact Nv v0_20 rfl (rg (mi rfl (Lw.add rfl (Ni rfl ((agm) ⟨z18, w64 (y9 + 1), v0_20, W20, rfl, (l10.j l20).w, rfl, s21, hm⟩)))))
 ·refine Cw.exit ?_
  rw [hK11] at hm
  refine ssr (Ni rfl (Cw.block ?_))
  obtain ⟨K28, hK28, hm⟩ := jn_e hm
  refine Cw.loop 25 37 [7, 9] (fun m l w => ∃ y23 y26 v24 W27, CW.w W27 = w ∧ Le [] W10 W27 ∧ l = [v24, vI y26] ∧ Rd W27 [0] [v24] y23 ∧ Vm.spec_l6Paths_l2 x1 K28 m y23 y26 = some r) _ ⟨y6, 0, v7, W10, rfl, Le.refl _ _, rfl, r8, hm⟩ ?_
  rintro (_ | m29) _ _ σ ⟨y23, y26, v24, W27, rfl, l27, rfl, r25, hm⟩
  ·cases hm
  unfold Vm.spec_l6Paths_l2 at hm
  have a30 := a13.n l27
  refine ssr (mi rfl (mv v1_ rfl (Lw.ln x1 (h1.ul a30) rfl (Lw.lt rfl (nl (cn hm (fun hm => ?_) fun hm => ?_))))))
  ·refine sk (Cw.seq (Cw.block (rg (mv v24 rfl (mv v1_ rfl (mi rfl ?_))))))
   obtain ⟨u33, e34, hm⟩ := ob hm
   refine Lw.r rfl (R.ix (α := File) (h1.ul a30) e34 rfl rfl rfl) (Lw.fa rfl (Lw.r rfl (R.ld rfl rfl (File.at0 ((h1.ul a30).at_ e34)).str) (cr hm (fun _ => p220 r25) ?_)))
   rintro z35 v0_37 W37 hm l37 ⟨_, rfl, f37_0⟩
   have s38 := f37_0.sub (M := [0]) rfl
   exact Nv v0_37 rfl (rg (mi rfl (Lw.add rfl (Ni rfl ((agm) ⟨z35, w64 (y26 + 1), v0_37, W37, rfl, (l27.j l37).w, rfl, s38, hm⟩)))))
  ·refine Cw.exit ?_
   rw [hK28] at hm
   refine ssr (Ni rfl (Cw.block ?_))
   obtain ⟨K45, hK45, hm⟩ := jn_e hm
   refine Cw.loop 38 50 [7, 10] (fun m l w => ∃ y40 y43 v41 W44, CW.w W44 = w ∧ Le [] W27 W44 ∧ l = [v41, vI y43] ∧ Rd W44 [0] [v41] y40 ∧ Vm.spec_l6Paths_l3 x2 K45 m y40 y43 = some r) _ ⟨y23, 0, v24, W27, rfl, Le.refl _ _, rfl, r25, hm⟩ ?_
   rintro (_ | m46) _ _ σ ⟨y40, y43, v41, W44, rfl, l44, rfl, r42, hm⟩
   ·cases hm
   unfold Vm.spec_l6Paths_l3 at hm
   have a47 := a30.n l44
   refine ssr (mi rfl (mv v2_ rfl (Lw.ln x2 (h2.ul a47) rfl (Lw.lt rfl (nl (cn hm (fun hm => ?_) fun hm => ?_))))))
   ·refine sk (Cw.seq (Cw.block (rg (mv v41 rfl (mv v2_ rfl (mi rfl ?_))))))
    obtain ⟨u50, e51, hm⟩ := ob hm
    refine Lw.r rfl (R.ix (α := File) (h2.ul a47) e51 rfl rfl rfl) (Lw.fa rfl (Lw.r rfl (R.ld rfl rfl (File.at0 ((h2.ul a47).at_ e51)).str) (cr hm (fun _ => p220 r42) ?_)))
    rintro z52 v0_54 W54 hm l54 ⟨_, rfl, f54_0⟩
    have s55 := f54_0.sub (M := [0]) rfl
    exact Nv v0_54 rfl (rg (mi rfl (Lw.add rfl (Ni rfl ((agm) ⟨z52, w64 (y43 + 1), v0_54, W54, rfl, (l44.j l54).w, rfl, s55, hm⟩)))))
   ·refine Cw.exit ?_
    rw [hK45] at hm
    refine sr (mv v41 rfl (Nv v41 rfl ?_))
    cases hm
    exact Cw.ret (ret1 rfl (Res.mk a47 ⟨v41, rfl, r42⟩))
theorem p218 {x0 v0_ x1 v1_ x2 v2_ r} (h0 : Rd W K [v0_] x0) (h1 : Rd W K [v1_] x1) (h2 : Rd W K [v2_] x2) (hm : Vm.spec_l6Paths x0 x1 x2 = some r) : Q1 218 [v0_, v1_, v2_] W [] fun W' v => ∃ u0, v = u0 ∧ Rd W' (0 :: K) [u0] r :=
 (c218 (h0.view _) (h1.view _) (h2.view _) hm).ad (fk 0) fun _ _ ⟨u0, e, f0⟩ => ⟨u0, e, f0.back rfl⟩
theorem c121 {x0 v0_ x1 r} (h0 : Rd W0 [0] [v0_] x0) (hm : Vm.spec_l4Get x0 x1 = some r) : Q0 121 [v0_, vS x1] W0 fun Wf v => ∃ u0, v = .tuple [u0, vB r.2].toArray ∧ Rd Wf [0] [u0] r.1 := by
 unfold Vm.spec_l4Get at hm
 refine CallR.of Tryz.func121 rfl rfl rfl rfl (sr (Gv (.slice none 0 0) rfl (Nb rfl (ssr (Ni rfl (Cw.block ?_))))))
 obtain ⟨K7, hK7, hm⟩ := jn_e hm
 refine Cw.loop 7 24 [4, 5, 6] (fun m l w => ∃ y1 y4 y5 v2 W6, CW.w W6 = w ∧ Le [] W0 W6 ∧ l = [v2, vB y4, vI y5] ∧ Ow W6 2 [] [v2] y1 ∧ Vm.spec_l4Get_l1 x0 x1 K7 m y1 y4 y5 = some r) _ ⟨([] : List Str), false, 0, .slice none 0 0, W0, rfl, Le.refl _ _, rfl, owN 2 [], hm⟩ ?_
 rintro (_ | m8) _ _ σ ⟨y1, y4, y5, v2, W6, rfl, l6, rfl, o3, hm⟩
 ·cases hm
 unfold Vm.spec_l4Get_l1 at hm
 have a9 := l6.o
 refine ssr ?_
 have s10 := h0.ul a9
 refine mi rfl (mv v0_ rfl (Lw.ln x0 s10 rfl (Lw.lt rfl (nl (cn hm (fun hm => ?_) fun hm => ?_)))))
 ·refine sk (Cw.seq (Cw.block (sr (mv v0_ rfl (mi rfl ?_)))))
  obtain ⟨u12, e13, hm⟩ := ob hm
  refine Lw.r rfl (R.ix (α := File) s10 e13 rfl rfl rfl) (Lw.fa rfl (Lw.r rfl (R.ld rfl rfl (File.at0 (s10.at_ e13)).str) (ms rfl (Lw.seq rfl (nl (cn hm (fun hm => ?_) fun hm => ?_))))))
  ·refine sr (mv v0_ rfl (mi rfl ?_))
   obtain ⟨u15, e16, hm⟩ := ob hm
   refine Lw.r rfl (R.ix (α := File) s10 e16 rfl rfl rfl) (Lw.fa rfl ?_)
   obtain ⟨v17, c18, r19⟩ := (File.at1 (s10.at_ e16)).cell rfl
   refine Lw.r rfl (R.ld rfl rfl c18) (Gv v17 rfl (Nb rfl ?_))
   cases hm
   exact Cw.ret (ret2 rfl rfl (Res.mk a9 ⟨v17, rfl, r19⟩))
  ·exact sk (rg (mi rfl (Lw.add rfl (Ni rfl ((agm) ⟨y1, y4, w64 (y5 + 1), v2, W6, rfl, l6, rfl, o3, hm⟩)))))
 ·refine Cw.exit ?_
  rw [hK7] at hm
  refine sr (Gv (.slice none 0 0) rfl (Nb rfl ?_))
  cases hm
  exact Cw.ret (ret2 rfl rfl (Res.mk a9 ⟨.slice none 0 0, rfl, (rdN (K := [0]))⟩))
theorem p121 {x0 v0_ x1 r} (h0 : Rd W K [v0_] x0) (hm : Vm.spec_l4Get x0 x1 = some r) : Q1 121 [v0_, vS x1] W [] fun W' v => ∃ u0, v = .tuple [u0, vB r.2].toArray ∧ Rd W' (0 :: K) [u0] r.1 :=
 (c121 (h0.view _) hm).ad (fk 0) fun _ _ ⟨u0, e, f0⟩ => ⟨u0, e, f0.back rfl⟩
theorem c98 {x0 v0_ x1 v1_ r} (h0 : Rd W0 [0] [v0_] x0) (h1 : Rd W0 [0] [v1_] x1) (hm : Vm.spec_l1Same x0 x1 = some r) : Q0 98 [v0_, v1_] W0 fun Wf v => v = vB r := by
 unfold Vm.spec_l1Same at hm
 refine CallR.of Tryz.func98 rfl rfl rfl rfl (sr (Nb rfl (ssr (mv v0_ rfl (Lw.ln x0 h0 rfl (mv v1_ rfl (Lw.ln x1 h1 rfl (Lw.ne rfl (nl (cn hm (fun hm => ?_) fun hm => ?_))))))))))
 ·exact sr (Nb rfl (.ret (rt hm (Le.refl _ _))))
 ·refine sk (ssr (Ni rfl (Cw.block ?_)))
  obtain ⟨K5, hK5, hm⟩ := jn_e hm
  refine Cw.loop 11 25 [4, 5] (fun m l w => ∃ y2 y3 W4, CW.w W4 = w ∧ Le [] W0 W4 ∧ l = [vB y2, vI y3] ∧ Vm.spec_l1Same_l1 x0 x1 K5 m y2 y3 = some r) _ ⟨false, 0, W0, rfl, Le.refl _ _, rfl, hm⟩ ?_
  rintro (_ | m6) _ _ σ ⟨y2, y3, W4, rfl, l4, rfl, hm⟩
  ·cases hm
  unfold Vm.spec_l1Same_l1 at hm
  have a7 := l4.o
  refine ssr (mi rfl (mv v0_ rfl (Lw.ln x0 (h0.ul a7) rfl (Lw.lt rfl (nl (cn hm (fun hm => ?_) fun hm => ?_))))))
  ·refine sk (Cw.seq (Cw.block (Cw.seq (Cw.draw [] [(0, 0), (1, 0), (2, 0), (3, 1), (4, 0), (5, 0), (6, 0), (7, 1), (8, 0)] mixed (by kernel_rfl) fun W10 l10 => ?_))))
   have a11 := a7.n l10
   refine Dv v0_ rfl (Di rfl ?_)
   obtain ⟨u12, e13, hm⟩ := ob hm
   refine Mw.p rfl rfl (fun _ => R.ix (α := Str) (h0.ul a11) e13 rfl rfl rfl) (Mw.q rfl rfl (fun _ c => R.ld rfl rfl (cl_cell ((h0.ul a11).at_ e13).1 rfl ((h0.ul a11).at_ e13).str c)) (Dv v1_ rfl (Di rfl ?_)))
   obtain ⟨u15, e16, hm⟩ := ob hm
   refine Mw.p rfl rfl (fun _ => R.ix (α := Str) (h1.ul a11) e16 rfl rfl rfl) (Mw.q rfl rfl (fun _ c => R.ld rfl rfl (cl_cell ((h1.ul a11).at_ e16).1 rfl ((h1.ul a11).at_ e16).str c)) (Mw.p rfl rfl (fun _ => R.sne rfl rfl) (Mw.nil (cn hm (fun hm => ?_) fun hm => ?_))))
   ·exact sr (Nb rfl (.ret (rt hm a11)))
   ·exact sk (rg (mi rfl (Lw.add rfl (Ni rfl ((agm) ⟨y2, w64 (y3 + 1), W10, rfl, (l4.j l10).w, rfl, hm⟩)))))
  ·refine Cw.exit ?_
   rw [hK5] at hm
   exact sr (Nb rfl (.ret (rt hm a7)))
theorem p98 {x0 v0_ x1 v1_ r} (h0 : Rd W K [v0_] x0) (h1 : Rd W K [v1_] x1) (hm : Vm.spec_l1Same x0 x1 = some r) : Q1 98 [v0_, v1_] W [] fun W' v => v = vB r :=
 (c98 (h0.view _) (h1.view _) hm).ad (fk 0) fun _ _ e => e
theorem c221 {x0 v0_ x1 x2 v2_ x3 r} (h0 : Rd W0 [0] [v0_] x0) (h2 : Rd W0 [0] [v2_] x2) (hm : Vm.spec_l6Same x0 x1 x2 x3 = some r) : Q0 221 [v0_, vB x1, v2_, vB x3] W0 fun Wf v => v = vB r := by
 unfold Vm.spec_l6Same at hm
 refine CallR.of Tryz.func221 rfl rfl rfl rfl (sr (Nb rfl ?_))
 obtain ⟨K3, hK3, hm⟩ := jn_e hm
 refine Cw.join 9 20 [8] (fun l w => ∃ y1 W2, CW.w W2 = w ∧ Le [] W0 W2 ∧ l = [vB y1] ∧ K3 y1 = some r) ?_ ?_
 ·rintro _ _ σ ⟨y1, W2, rfl, l2, rfl, hm⟩
  rw [hK3] at hm
  have a4 := l2.o
  exact .ret (rt hm a4)
 ·refine rg (mb rfl (mb rfl (Lw.r rfl (R.beq rfl rfl) (mb rfl (bs hm (fun hc5 hm => ?_) fun hc5 hm => ?_)))))
  ·refine wak 3 hc5 (mb rfl (Lw.r rfl (R.not rfl) (mb rfl (bs hm (fun hc6 hm => ?_) fun hc6 hm => ?_))))
   ·exact psk 3 hc6 rfl (wak 1 hc5 (Pb hc6 rfl (Pb hc5 rfl (Nb rfl ((ag) ⟨true, W0, rfl, Le.refl _ _, rfl, hm⟩)))))
   ·exact wak 3 hc6 (mv v0_ rfl (mv v2_ rfl (ca hm (fun _ => p98 h0 h2) fun z7 W9 hm l9 => wak 1 hc5 (Pb hc6 rfl (Pb hc5 rfl (Nb rfl ((ag) ⟨z7, W9, rfl, l9, rfl, hm⟩)))))))
  ·exact psk 3 hc5 rfl (puk 3 rfl (psk 1 hc5 rfl (Pb hc5 rfl (Nb rfl ((ag) ⟨false, W0, rfl, Le.refl _ _, rfl, hm⟩)))))
theorem p221 {x0 v0_ x1 x2 v2_ x3 r} (h0 : Rd W K [v0_] x0) (h2 : Rd W K [v2_] x2) (hm : Vm.spec_l6Same x0 x1 x2 x3 = some r) : Q1 221 [v0_, vB x1, v2_, vB x3] W [] fun W' v => v = vB r :=
 (c221 (h0.view _) (h2.view _) hm).ad (fk 0) fun _ _ e => e
theorem c155 {x0 v0_ x1 v1_ r} (h0 : Rd W0 [0] [v0_] x0) (h1 : Rd W0 [0] [v1_] x1) (hm : Vm.spec_l1Table x0 x1 = some r) : Q0 155 [v0_, v1_] W0 fun Wf v => ∃ u0, v = u0 ∧ OwS Wf LL [] [u0] r := by
 unfold Vm.spec_l1Table at hm
 refine CallR.of Tryz.func155 rfl rfl rfl rfl (sr (Nv (.slice none 0 0) rfl (sr (Lw.t rfl (T.lit0 (α := List Int) 2 []) ?_))))
 rintro v1 _ ⟨W1, rfl, l1, o1⟩
 have a2 := l1.o
 refine Nv v1 rfl (ssr (Ni rfl (Cw.block ?_)))
 obtain ⟨K8, hK8, hm⟩ := jn_e hm
 refine Cw.loop 10 22 [5, 6] (fun m l w => ∃ y3 y6 v4 W7, CW.w W7 = w ∧ Le [2, 3] W1 W7 ∧ l = [v4, vI y6] ∧ Ow W7 2 [] [v4] y3 ∧ Vm.spec_l1Table_l1 x0 x1 K8 m y3 y6 = some r) _ ⟨([] : List (List Int)), 0, v1, W1, rfl, Le.refl _ _, rfl, o1, hm⟩ ?_
 rintro (_ | m9) _ _ σ ⟨y3, y6, v4, W7, rfl, l7, rfl, o5, hm⟩
 ·cases hm
 unfold Vm.spec_l1Table_l1 at hm
 have a10 := a2.t l7
 refine ssr (mi rfl (mv v0_ rfl (Lw.ln x0 (h0.ul a10) rfl (Lw.le rfl (nl (cn hm (fun hm => ?_) fun hm => ?_))))))
 ·refine sk (Cw.seq (Cw.block (rg (mv v4 rfl (mv v1_ rfl (Lw.ln x1 (h1.ul a10) rfl (Lw.add rfl ?_)))))))
  obtain ⟨q14, e15, hm⟩ := ob hm
  refine Lw.t rfl (T.mk (α := Int) 3 [] (n := w64 ((x1.length : Int) + 1)) rfl rfl e15) ?_
  rintro v16 _ ⟨W16, rfl, l16, o16⟩
  refine Lw.t rfl (T.bs 4 [v16] (cs := [v16]) (bsc o16.oc) rfl (bsv o16.oc)) ?_
  rintro _ _ ⟨g19, W19, rfl, rfl, l19, b19⟩
  obtain ⟨q23, e24, hm⟩ := ob hm
  refine Lw.t rfl (T.app1 (α := List Int) (J := [3]) (K' := []) ((o5.up l16).up l19) b19 (o16.up l19).s rfl rfl e24) ?_
  rintro v25 _ ⟨W25, rfl, l25, o25⟩
  exact Nv v25 rfl (rg (mi rfl (Lw.add rfl (Ni rfl ((agm) ⟨q23, w64 (y6 + 1), v25, W25, rfl, (((l7.j l16).j l19).j l25).w, rfl, o25, hm⟩)))))
 ·refine Cw.exit ?_
  rw [hK8] at hm
  refine ssr (mv v0_ rfl (Lw.ln x0 (h0.ul a10) rfl (Lw.sub rfl (Ni rfl (Cw.block ?_)))))
  obtain ⟨K33, hK33, hm⟩ := jn_e hm
  refine Cw.loop 26 108 [7, 8] (fun m l w => ∃ y28 y30 j29 W32, CW.w W32 = w ∧ Le [2, 5, 6, 7] W7 W32 ∧ l = [vI y28, j29] ∧ Ow W32 2 [] [v4] y30 ∧ Vm.spec_l1Table_l2 x0 x1 K33 m y28 y30 = some r) _ ⟨w64 ((x0.length : Int) - 1), y3, undef, W7, rfl, Le.refl _ _, rfl, o5, hm⟩ ?_
  rintro (_ | m34) _ _ σ ⟨y28, y30, j29, W32, rfl, l32, rfl, o31, hm⟩
  ·cases hm
  unfold Vm.spec_l1Table_l2 at hm
  have a35 := a10.t l32
  refine ssr (mi rfl (Lw.ge rfl (nl (cn hm (fun hm => ?_) fun hm => ?_))))
  ·refine sk (Cw.seq (Cw.block (sr (mv v1_ rfl (Lw.ln x1 (h1.ul a35) rfl (Lw.sub rfl (Ni rfl (Cw.block ?_))))))))
   obtain ⟨K42, hK42, hm⟩ := jn_e hm
   refine Cw.loop 33 108 [8] (fun m l w => ∃ y38 y39 W41, CW.w W41 = w ∧ Le [2, 5, 6, 7] W32 W41 ∧ l = [vI y38] ∧ Ow W41 2 [] [v4] y39 ∧ Vm.spec_l1Table_l3 x0 x1 y28 K42 m y38 y39 = some r) _ ⟨w64 ((x1.length : Int) - 1), y30, W32, rfl, Le.refl _ _, rfl, o31, hm⟩ ?_
   rintro (_ | m43) _ _ σ ⟨y38, y39, W41, rfl, l41, rfl, o40, hm⟩
   ·cases hm
   unfold Vm.spec_l1Table_l3 at hm
   have a44 := a35.t l41
   refine ssr (mi rfl (Lw.ge rfl (nl (cn hm (fun hm => ?_) fun hm => ?_))))
   ·refine sk ?_
    obtain ⟨K49, hK49, hm⟩ := jn_e hm
    refine Cw.join 37 108 [] (fun l w => ∃ y46 W48, CW.w W48 = w ∧ Le [2, 5, 6, 7] W41 W48 ∧ l = [] ∧ Ow W48 2 [] [v4] y46 ∧ K49 y46 = some r) ?_ ?_
    ·rintro _ _ σ ⟨y46, W48, rfl, l48, rfl, o47, hm⟩
     rw [hK49] at hm
     exact rg (mi rfl (Lw.sub rfl (Ni rfl ((agm) ⟨w64 (y38 - 1), y46, W48, rfl, (l41.j l48).w, rfl, o47, hm⟩))))
    ·refine Cw.block (Cw.block (Cw.seq (Cw.draw [] [(0, 0), (1, 0), (2, 0), (3, 1), (4, 0), (5, 0), (6, 0), (7, 1), (8, 0), (9, 0)] mixed (by kernel_rfl) fun W51 l51 => ?_)))
     have a52 := a44.n l51
     refine Dv v0_ rfl (Di rfl ?_)
     obtain ⟨u54, e55, hm⟩ := ob hm
     refine Mw.p rfl rfl (fun _ => R.ix (α := Str) (h0.ul a52) e55 rfl rfl rfl) (Mw.q rfl rfl (fun _ c => R.ld rfl rfl (cl_cell ((h0.ul a52).at_ e55).1 rfl ((h0.ul a52).at_ e55).str c)) (Dv v1_ rfl (Di rfl ?_)))
     obtain ⟨u57, e58, hm⟩ := ob hm
     refine Mw.p rfl rfl (fun _ => R.ix (α := Str) (h1.ul a52) e58 rfl rfl rfl) (Mw.q rfl rfl (fun _ c => R.ld rfl rfl (cl_cell ((h1.ul a52).at_ e58).1 rfl ((h1.ul a52).at_ e58).str c)) (Mw.p rfl rfl (fun _ => R.seq rfl rfl) (Hb rfl (Mw.nil (cn hm (fun hm => ?_) fun hm => ?_)))))
     ·refine Cw.draw [] [(0, 0), (1, 0), (2, 0), (3, 1), (4, 0), (5, 0), (6, 0), (7, 0), (8, 0), (9, 1), (10, 0), (11, 0), (12, 0), (13, 1), (14, 0), (15, 0), (16, 3)] mixed (by kernel_rfl) fun W61 l61 => ?_
      have o63 := (o40.up l51).up l61
      refine Dv v4 rfl (Di rfl ?_)
      obtain ⟨u64, e65, hm⟩ := ob hm
      refine Mw.p rfl rfl (fun _ => R.ix (α := List Int) o63.rd e65 rfl rfl rfl) ?_
      obtain ⟨v66, c67, r68⟩ := (o63.rd.at_ e65).cell rfl
      refine Mw.q rfl rfl (fun _ c => R.ld rfl rfl (cl_cell (o63.rd.at_ e65).1 rfl c67 c)) (Di rfl (Dv v4 rfl (Di rfl (Mw.p rfl rfl (fun _ => R.add rfl rfl) ?_))))
      obtain ⟨u69, e70, hm⟩ := ob hm
      refine Mw.p rfl rfl (fun _ => R.ix (α := List Int) o63.rd e70 rfl rfl rfl) ?_
      obtain ⟨v71, c72, r73⟩ := (o63.rd.at_ e70).cell rfl
      refine Mw.q rfl rfl (fun _ c => R.ld rfl rfl (cl_cell (o63.rd.at_ e70).1 rfl c72 c)) (Di rfl (Mw.p rfl rfl (fun _ => R.add rfl rfl) ?_))
      obtain ⟨u74, e75, hm⟩ := ob hm
      refine Mw.p rfl rfl (fun _ => R.ix (α := Int) r73 e75 rfl rfl rfl) (Mw.q rfl rfl (fun _ c => R.ld rfl rfl (cl_cell (r73.at_ e75).1 rfl (r73.at_ e75).int c)) (Mw.p rfl rfl (fun _ => R.add rfl rfl) ?_))
      obtain ⟨u76, e77, hm⟩ := ob hm
      refine Mw.p rfl rfl (fun _ => R.ix (α := Int) r68 e77 rfl rfl rfl) ?_
      obtain ⟨W78, ew78, l78, o78, gb78⟩ := Ow.lend (α := List Int) (β := List Int) (j := 5) (jf := 0) o63 e65 (by rw [h_add0]; exact c67) rfl
      rw [← ew78]
      obtain ⟨q81, e82, hm⟩ := ob hm
      refine Mw.lu rfl (T.stS (K' := []) o78 (rdI _) e82 rfl rfl rfl) ?_
      rintro _ _ ⟨W80, rfl, l80, o80⟩
      obtain ⟨W85, ew85, l85, q85, eq85, o85⟩ := gb78 _ _ l80 o80
      obtain ⟨q85_, eqm85, hm⟩ := ob hm
      obtain rfl : q85_ = q85 := Option.some.inj (eqm85.symm.trans eq85)
      rw [← ew85]
      exact Mw.nil ((ag) ⟨q85_, W85, rfl, ((((l51.j l61).j l78).j l80).j l85).w, rfl, o85, hm⟩)
     ·refine Cw.seq (Cw.draw [] [(0, 0), (1, 0), (2, 0), (3, 0), (4, 1), (5, 0), (6, 0), (7, 1), (8, 0), (9, 0), (10, 0), (11, 1), (12, 0), (13, 0), (14, 0), (15, 1), (16, 0), (17, 0)] mixed (by kernel_rfl) fun W87 l87 => ?_)
      have o89 := (o40.up l51).up l87
      refine Dv v4 rfl (Di rfl (Mw.p rfl rfl (fun _ => R.add rfl rfl) ?_))
      obtain ⟨u90, e91, hm⟩ := ob hm
      refine Mw.p rfl rfl (fun _ => R.ix (α := List Int) o89.rd e91 rfl rfl rfl) ?_
      obtain ⟨v92, c93, r94⟩ := (o89.rd.at_ e91).cell rfl
      refine Mw.q rfl rfl (fun _ c => R.ld rfl rfl (cl_cell (o89.rd.at_ e91).1 rfl c93 c)) (Di rfl ?_)
      obtain ⟨u95, e96, hm⟩ := ob hm
      refine Mw.p rfl rfl (fun _ => R.ix (α := Int) r94 e96 rfl rfl rfl) (Mw.q rfl rfl (fun _ c => R.ld rfl rfl (cl_cell (r94.at_ e96).1 rfl (r94.at_ e96).int c)) (Dv v4 rfl (Di rfl ?_)))
      obtain ⟨u97, e98, hm⟩ := ob hm
      refine Mw.p rfl rfl (fun _ => R.ix (α := List Int) o89.rd e98 rfl rfl rfl) ?_
      obtain ⟨v99, c100, r101⟩ := (o89.rd.at_ e98).cell rfl
      refine Mw.q rfl rfl (fun _ c => R.ld rfl rfl (cl_cell (o89.rd.at_ e98).1 rfl c100 c)) (Di rfl (Mw.p rfl rfl (fun _ => R.add rfl rfl) ?_))
      obtain ⟨u102, e103, hm⟩ := ob hm
      refine Mw.p rfl rfl (fun _ => R.ix (α := Int) r101 e103 rfl rfl rfl) (Mw.q rfl rfl (fun _ c => R.ld rfl rfl (cl_cell (r101.at_ e103).1 rfl (r101.at_ e103).int c)) (Mw.p rfl rfl (fun _ => R.ge rfl rfl) (Hb rfl (Mw.nil (cn hm (fun hm => ?_) fun hm => ?_)))))
      ·refine Cw.draw [] [(0, 0), (1, 0), (2, 0), (3, 1), (4, 0), (5, 0), (6, 0), (7, 0), (8, 0), (9, 1), (10, 0), (11, 0), (12, 1), (13, 0), (14, 3)] mixed (by kernel_rfl) fun W105 l105 => ?_
       have o107 := o89.up l105
       refine Dv v4 rfl (Di rfl ?_)
       obtain ⟨u108, e109, hm⟩ := ob hm
       refine Mw.p rfl rfl (fun _ => R.ix (α := List Int) o107.rd e109 rfl rfl rfl) ?_
       obtain ⟨v110, c111, r112⟩ := (o107.rd.at_ e109).cell rfl
       refine Mw.q rfl rfl (fun _ c => R.ld rfl rfl (cl_cell (o107.rd.at_ e109).1 rfl c111 c)) (Di rfl (Dv v4 rfl (Di rfl (Mw.p rfl rfl (fun _ => R.add rfl rfl) ?_))))
       obtain ⟨u113, e114, hm⟩ := ob hm
       refine Mw.p rfl rfl (fun _ => R.ix (α := List Int) o107.rd e114 rfl rfl rfl) ?_
       obtain ⟨v115, c116, r117⟩ := (o107.rd.at_ e114).cell rfl
       refine Mw.q rfl rfl (fun _ c => R.ld rfl rfl (cl_cell (o107.rd.at_ e114).1 rfl c116 c)) (Di rfl ?_)
       obtain ⟨u118, e119, hm⟩ := ob hm
       refine Mw.p rfl rfl (fun _ => R.ix (α := Int) r117 e119 rfl rfl rfl) (Mw.q rfl rfl (fun _ c => R.ld rfl rfl (cl_cell (r117.at_ e119).1 rfl (r117.at_ e119).int c)) ?_)
       obtain ⟨u120, e121, hm⟩ := ob hm
       refine Mw.p rfl rfl (fun _ => R.ix (α := Int) r112 e121 rfl rfl rfl) ?_
       obtain ⟨W122, ew122, l122, o122, gb122⟩ := Ow.lend (α := List Int) (β := List Int) (j := 6) (jf := 0) o107 e109 (by rw [h_add0]; exact c111) rfl
       rw [← ew122]
       obtain ⟨q125, e126, hm⟩ := ob hm
       refine Mw.lu rfl (T.stS (K' := []) o122 (rdI _) e126 rfl rfl rfl) ?_
       rintro _ _ ⟨W124, rfl, l124, o124⟩
       obtain ⟨W129, ew129, l129, q129, eq129, o129⟩ := gb122 _ _ l124 o124
       obtain ⟨q129_, eqm129, hm⟩ := ob hm
       obtain rfl : q129_ = q129 := Option.some.inj (eqm129.symm.trans eq129)
       rw [← ew129]
       exact Mw.nil ((ag) ⟨q129_, W129, rfl, (((((l51.j l87).j l105).j l122).j l124).j l129).w, rfl, o129, hm⟩)
      ·refine Cw.draw [] [(0, 0), (1, 0), (2, 0), (3, 1), (4, 0), (5, 0), (6, 0), (7, 0), (8, 1), (9, 0), (10, 0), (11, 0), (12, 1), (13, 0), (14, 3)] mixed (by kernel_rfl) fun W131 l131 => ?_
       have o133 := o89.up l131
       refine Dv v4 rfl (Di rfl ?_)
       obtain ⟨u134, e135, hm⟩ := ob hm
       refine Mw.p rfl rfl (fun _ => R.ix (α := List Int) o133.rd e135 rfl rfl rfl) ?_
       obtain ⟨v136, c137, r138⟩ := (o133.rd.at_ e135).cell rfl
       refine Mw.q rfl rfl (fun _ c => R.ld rfl rfl (cl_cell (o133.rd.at_ e135).1 rfl c137 c)) (Di rfl (Dv v4 rfl (Di rfl ?_)))
       obtain ⟨u139, e140, hm⟩ := ob hm
       refine Mw.p rfl rfl (fun _ => R.ix (α := List Int) o133.rd e140 rfl rfl rfl) ?_
       obtain ⟨v141, c142, r143⟩ := (o133.rd.at_ e140).cell rfl
       refine Mw.q rfl rfl (fun _ c => R.ld rfl rfl (cl_cell (o133.rd.at_ e140).1 rfl c142 c)) (Di rfl (Mw.p rfl rfl (fun _ => R.add rfl rfl) ?_))
       obtain ⟨u144, e145, hm⟩ := ob hm
       refine Mw.p rfl rfl (fun _ => R.ix (α := Int) r143 e145 rfl rfl rfl) (Mw.q rfl rfl (fun _ c => R.ld rfl rfl (cl_cell (r143.at_ e145).1 rfl (r143.at_ e145).int c)) ?_)
       obtain ⟨u146, e147, hm⟩ := ob hm
       refine Mw.p rfl rfl (fun _ => R.ix (α := Int) r138 e147 rfl rfl rfl) ?_
       obtain ⟨W148, ew148, l148, o148, gb148⟩ := Ow.lend (α := List Int) (β := List Int) (j := 7) (jf := 0) o133 e135 (by rw [h_add0]; exact c137) rfl
       rw [← ew148]
       obtain ⟨q151, e152, hm⟩ := ob hm
       refine Mw.lu rfl (T.stS (K' := []) o148 (rdI _) e152 rfl rfl rfl) ?_
       rintro _ _ ⟨W150, rfl, l150, o150⟩
       obtain ⟨W155, ew155, l155, q155, eq155, o155⟩ := gb148 _ _ l150 o150
       obtain ⟨q155_, eqm155, hm⟩ := ob hm
       obtain rfl : q155_ = q155 := Option.some.inj (eqm155.symm.trans eq155)
       rw [← ew155]
       exact Mw.nil ((ag) ⟨q155_, W155, rfl, (((((l51.j l87).j l131).j l148).j l150).j l155).w, rfl, o155, hm⟩)
   ·refine Cw.exit ?_
    rw [hK42] at hm
    exact rg (mi rfl (Lw.sub rfl (Ni rfl ((agm) ⟨w64 (y28 - 1), y39, vI y38, W41, rfl, (l32.j l41).w, rfl, o40, hm⟩))))
  ·refine Cw.exit ?_
   rw [hK33] at hm
   refine sr (mv v4 rfl (Nv v4 rfl ?_))
   cases hm
   exact Cw.ret (ret1 rfl (Res.mk a35 ⟨v4, rfl, o31.s.sub rfl rfl⟩))
theorem p155 {x0 v0_ x1 v1_ k0 r} (h0 : Rd W K [v0_] x0) (h1 : Rd W K [v1_] x1) (hm : Vm.spec_l1Table x0 x1 = some r) : Q1 155 [v0_, v1_] W [] fun W' v => ∃ u0, v = u0 ∧ Ow W' k0 [] [u0] r :=
 (c155 (h0.view _) (h1.view _) hm).ad (fk k0) fun _ _ ⟨u0, e, f0⟩ => ⟨u0, e, f0.back (fk_LL _)⟩
theorem c122 {x0 v0_ x1 v1_ r} (h0 : Rd W0 [0] [v0_] x0) (h1 : Rd W0 [0] [v1_] x1) (hm : Vm.spec_l1Match x0 x1 = some r) : Q0 122 [v0_, v1_] W0 fun Wf v => ∃ u0, v = u0 ∧ OwS Wf LL [] [u0] r := by
 unfold Vm.spec_l1Match at hm
 refine CallR.of Tryz.func122 rfl rfl rfl rfl (sr (Nv (.slice none 0 0) rfl (sr (mv v0_ rfl (mv v1_ rfl (cr hm (fun _ => p155 (k0 := 2) h0 h1) ?_))))))
 rintro z1 v0_3 W3 hm l3 ⟨_, rfl, f3_0⟩
 have a4 := l3.o
 refine Nv v0_3 rfl (sr (Lw.t rfl (T.lit0 (α := Int) 3 []) ?_))
 rintro v5 _ ⟨W5, rfl, l5, o5⟩
 have a6 := a4.n l5
 refine Nv v5 rfl (sr (Ni rfl (ssr (Ni rfl (Cw.block ?_)))))
 obtain ⟨K14, hK14, hm⟩ := jn_e hm
 refine Cw.loop 13 71 [6, 7, 8] (fun m l w => ∃ y8 y11 y12 v9 W13, CW.w W13 = w ∧ Le [3] W5 W13 ∧ l = [v9, vI y11, vI y12] ∧ Ow W13 3 [] [v9] y8 ∧ Vm.spec_l1Match_l1 x0 x1 z1 K14 m y8 y11 y12 = some r) _ ⟨([] : List Int), 0, 0, v5, W5, rfl, Le.refl _ _, rfl, o5, hm⟩ ?_
 rintro (_ | m15) _ _ σ ⟨y8, y11, y12, v9, W13, rfl, l13, rfl, o10, hm⟩
 ·cases hm
 unfold Vm.spec_l1Match_l1 at hm
 have a16 := a6.t l13
 refine ssr (mi rfl (mv v0_ rfl (Lw.ln x0 (h0.ul a16) rfl (Lw.lt rfl (nl (cn hm (fun hm => ?_) fun hm => ?_))))))
 ·refine sk (Cw.block (Cw.block ?_))
  obtain ⟨K22, hK22, hm⟩ := jn_e hm
  refine Cw.join 19 34 [19] (fun l w => ∃ y20 W21, CW.w W21 = w ∧ Le [] W13 W21 ∧ l = [vB y20] ∧ K22 y20 = some r) ?_ ?_
  ·rintro _ _ σ ⟨y20, W21, rfl, l21, rfl, hm⟩
   rw [hK22] at hm
   have a23 := a16.n l21
   refine cn hm (fun hm => ?_) fun hm => ?_
   ·refine sr (mv v9 rfl (mi rfl (Lw.t rfl (T.bs 4 [vI y11] (cs := [vI y11]) rfl rfl (bsv rfl)) ?_)))
    rintro _ _ ⟨g27, W27, rfl, rfl, l27, b27⟩
    obtain ⟨q31, e32, hm⟩ := ob hm
    refine Lw.t rfl (T.app1S (α := Int) (K' := []) ((o10.up l21).up l27) b27 (rdI _) rfl rfl e32) ?_
    rintro v33 _ ⟨W33, rfl, l33, o33⟩
    exact Nv v33 rfl (sr (mi rfl (Lw.add rfl (Ni rfl (rg (mi rfl (Lw.add rfl (Ni rfl ((agm) ⟨q31, w64 (y11 + 1), w64 (y12 + 1), v33, W33, rfl, (((l13.j l21).j l27).j l33).w, rfl, o33, hm⟩)))))))))
   ·obtain ⟨K39, hK39, hm⟩ := jn_e hm
    refine Cw.join 43 66 [43] (fun l w => ∃ y37 W38, CW.w W38 = w ∧ Le [] W21 W38 ∧ l = [vB y37] ∧ K39 y37 = some r) ?_ ?_
    ·rintro _ _ σ ⟨y37, W38, rfl, l38, rfl, hm⟩
     rw [hK39] at hm
     have o42 := (o10.up l21).up l38
     refine cn hm (fun hm => ?_) fun hm => ?_
     ·refine sr (mv v9 rfl (Lw.t rfl (T.bs 5 [vI (-1)] (cs := [vI (-1)]) rfl rfl (bsv rfl)) ?_))
      rintro _ _ ⟨g44, W44, rfl, rfl, l44, b44⟩
      obtain ⟨q48, e49, hm⟩ := ob hm
      refine Lw.t rfl (T.app1S (α := Int) (K' := []) (o42.up l44) b44 (rdI _) rfl rfl e49) ?_
      rintro v50 _ ⟨W50, rfl, l50, o50⟩
      exact Nv v50 rfl (rg (mi rfl (Lw.add rfl (Ni rfl ((agm) ⟨q48, y11, w64 (y12 + 1), v50, W50, rfl, ((((l13.j l21).j l38).j l44).j l50).w, rfl, o50, hm⟩)))))
     ·exact rg (mi rfl (Lw.add rfl (Ni rfl ((agm) ⟨y8, w64 (y11 + 1), y12, v9, W38, rfl, ((l13.j l21).j l38).w, rfl, o42, hm⟩))))
    ·refine Cw.draw [] [(0, 0), (1, 0), (2, 0), (3, 0), (4, 0), (5, 0), (6, 0), (7, 0), (8, 0), (9, 1), (10, 0), (11, 0), (12, 1), (13, 0), (14, 0), (15, 0), (16, 1), (17, 0), (18, 0), (19, 0), (20, 1), (21, 0), (22, 0), (23, 0)] mixed (by kernel_rfl) fun W54 l54 => ?_
     have a55 := a23.n l54
     have o56 := (((f3_0.up l5).up l13).up l21).up l54
     refine Di rfl (Dv v1_ rfl (Mw.p rfl rfl (fun _ => lenR (xs := x1) (h1.ul a55) rfl) (Mw.p rfl rfl (fun _ => R.ge rfl rfl) (Db rfl (bs hm (fun hc59 hm => ?_) fun hc59 hm => ?_)))))
     ·exact dps 17 hc59 rfl (Mw.p rfl rfl (fun _ => R.pk hc59 rfl (v := vB true) rfl) (Hb rfl (Mw.nil ((ag) ⟨true, W54, rfl, l54, rfl, hm⟩))))
     ·refine Wp hc59 rfl (fun _ => R.mv (v := v0_3) rfl) (Wp hc59 rfl (fun _ => R.mv (v := vI y12) rfl) (Wp hc59 rfl (fun _ => R.add rfl rfl) ?_))
      obtain ⟨u60, e61, hm⟩ := ob hm
      refine Wp hc59 rfl (fun _ => R.ix (α := List Int) o56.rd e61 rfl rfl rfl) ?_
      obtain ⟨v62, c63, r64⟩ := (o56.rd.at_ e61).cell rfl
      refine Wq hc59 rfl (fun _ c => R.ld rfl rfl (cl_cell (o56.rd.at_ e61).1 rfl c63 c)) (Wp hc59 rfl (fun _ => R.mv (v := vI y11) rfl) ?_)
      obtain ⟨u65, e66, hm⟩ := ob hm
      refine Wp hc59 rfl (fun _ => R.ix (α := Int) r64 e66 rfl rfl rfl) (Wq hc59 rfl (fun _ c => R.ld rfl rfl (cl_cell (r64.at_ e66).1 rfl (r64.at_ e66).int c)) (Wp hc59 rfl (fun _ => R.mv (v := v0_3) rfl) (Wp hc59 rfl (fun _ => R.mv (v := vI y12) rfl) ?_)))
      obtain ⟨u67, e68, hm⟩ := ob hm
      refine Wp hc59 rfl (fun _ => R.ix (α := List Int) o56.rd e68 rfl rfl rfl) ?_
      obtain ⟨v69, c70, r71⟩ := (o56.rd.at_ e68).cell rfl
      refine Wq hc59 rfl (fun _ c => R.ld rfl rfl (cl_cell (o56.rd.at_ e68).1 rfl c70 c)) (Wp hc59 rfl (fun _ => R.mv (v := vI y11) rfl) (Wp hc59 rfl (fun _ => R.add rfl rfl) ?_))
      obtain ⟨u72, e73, hm⟩ := ob hm
      exact Wp hc59 rfl (fun _ => R.ix (α := Int) r71 e73 rfl rfl rfl) (Wq hc59 rfl (fun _ c => R.ld rfl rfl (cl_cell (r71.at_ e73).1 rfl (r71.at_ e73).int c)) (Wp hc59 rfl (fun _ => R.ge rfl rfl) (Mw.p rfl rfl (fun _ => R.pk hc59 rfl (v := vB (decide ((u72 : Int) ≤ (u65 : Int)))) rfl) (Hb rfl (Mw.nil ((ag) ⟨decide ((u72 : Int) ≤ (u65 : Int)), W54, rfl, l54, rfl, hm⟩))))))
  ·refine Cw.draw [] [(0, 0), (1, 0), (2, 0), (3, 0), (4, 0), (5, 0), (6, 0), (7, 0), (8, 1), (9, 0), (10, 0), (11, 0), (12, 1), (13, 0), (14, 0), (15, 0)] mixed (by kernel_rfl) fun W74 l74 => ?_
   have a75 := a16.n l74
   have s78 := h1.ul a75
   refine Di rfl (Dv v1_ rfl (Mw.p rfl rfl (fun _ => lenR (xs := x1) s78 rfl) (Mw.p rfl rfl (fun _ => R.lt rfl rfl) (Db rfl (bs hm (fun hc79 hm => ?_) fun hc79 hm => ?_)))))
   ·refine Wp hc79 rfl (fun _ => R.mv (v := v0_) rfl) (Wp hc79 rfl (fun _ => R.mv (v := vI y12) rfl) ?_)
    obtain ⟨u80, e81, hm⟩ := ob hm
    refine Wp hc79 rfl (fun _ => R.ix (α := Str) (h0.ul a75) e81 rfl rfl rfl) (Wq hc79 rfl (fun _ c => R.ld rfl rfl (cl_cell ((h0.ul a75).at_ e81).1 rfl ((h0.ul a75).at_ e81).str c)) (Wp hc79 rfl (fun _ => R.mv (v := v1_) rfl) (Wp hc79 rfl (fun _ => R.mv (v := vI y11) rfl) ?_)))
    obtain ⟨u83, e84, hm⟩ := ob hm
    exact Wp hc79 rfl (fun _ => R.ix (α := Str) s78 e84 rfl rfl rfl) (Wq hc79 rfl (fun _ c => R.ld rfl rfl (cl_cell (s78.at_ e84).1 rfl (s78.at_ e84).str c)) (Wp hc79 rfl (fun _ => R.seq rfl rfl) (Mw.p rfl rfl (fun _ => R.pk hc79 rfl (v := vB (u80 == u83)) rfl) (Hb rfl (Mw.nil ((ag) ⟨(u80 == u83), W74, rfl, l74, rfl, hm⟩))))))
   ·exact dps 9 hc79 rfl (Mw.p rfl rfl (fun _ => R.pk hc79 rfl (v := vB false) rfl) (Hb rfl (Mw.nil ((ag) ⟨false, W74, rfl, l74, rfl, hm⟩))))
 ·refine Cw.exit ?_
  rw [hK14] at hm
  refine sr (mv v9 rfl (Nv v9 rfl ?_))
  cases hm
  exact Cw.ret (ret1 rfl (Res.mk a16 ⟨v9, rfl, o10.s.sub rfl rfl⟩))
theorem p122 {x0 v0_ x1 v1_ k0 r} (h0 : Rd W K [v0_] x0) (h1 : Rd W K [v1_] x1) (hm : Vm.spec_l1Match x0 x1 = some r) : Q1 122 [v0_, v1_] W [] fun W' v => ∃ u0, v = u0 ∧ Ow W' k0 [] [u0] r :=
 (c122 (h0.view _) (h1.view _) hm).ad (fk k0) fun _ _ ⟨u0, e, f0⟩ => ⟨u0, e, f0.back (fk_LL _)⟩
end Go.Sx
