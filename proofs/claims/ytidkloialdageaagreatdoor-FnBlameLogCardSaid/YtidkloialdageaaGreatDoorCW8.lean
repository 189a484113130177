/- Walks: each function answers as its model, printed by a program of ours. Conditions: the arguments read as they are given. -/
import Derived.Test.YtidkloialdageaaGreatDoorCTs
import Derived.Test.YtidkloialdageaaGreatDoorCM1
import Derived.Test.YtidkloialdageaaGreatDoorCW0
import Derived.Test.YtidkloialdageaaGreatDoorCW1
import Derived.Test.YtidkloialdageaaGreatDoorCW3
import Derived.Test.YtidkloialdageaaGreatDoorCW7
namespace Go.Sx
open Go Go.Proofs Go.Vm Rp
set_option linter.unusedVariables false
set_option linter.unusedSimpArgs false
variable {W W0 : CW} {K : List Nat}
theorem c23 {x0 v0_0_ v0_1_ x1 x2 r} (h0 : Rd W0 [0] [v0_0_, v0_1_] x0) (h99 : Gl 0 W0 [0]) (hm : Vm.impl_BlameOf x0 x1 x2 = some r) : Q0 23 [.agg [v0_0_, v0_1_].toArray, vI x1, vS x2] W0 fun Wf v => ∃ u0, v = u0 ∧ OwS Wf LL [] [u0] r := by
 unfold Vm.impl_BlameOf at hm
 obtain ⟨w0_0, w0_1, he0, h0_0, h0_1⟩ := Repo.split h0
 simp only [List.cons.injEq, and_true, true_and] at he0
 obtain ⟨rfl, rfl⟩ := he0
 refine CallR.of Tryz.func23 rfl rfl rfl rfl (sr (bo 2 rfl fun g1 W1 l1 b1 => ?_))
 have a2 := l1.o
 refine Nv (.slice none 0 0) rfl (ssr (la b1 (mi rfl (Lw.t rfl (T.bsS (α := Int) (xs := [x1]) 3 [] (W := W1) [vI x1] (Each.cons ((rdI _)) Each.nil) rfl) ?_))))
 rintro v3 _ ⟨W3, rfl, l3, o3⟩
 have a4 := a2.n l3
 refine ca hm (fun _ => p87 (K := [0, 3]) ((Repo.rd (K := [0]) x0.Commits x0.Heads (h0_0.ul a4) (h0_1.ul a4)).sub (M := [0, 3]) rfl) (o3.rd.sub (M := [0, 3]) rfl) ((h99.ul a4).sub (M := [0, 3]) rfl)) fun z9 W11 hm l11 => ?_
 have a12 := a4.n l11
 refine Lw.r rfl (R.not rfl) (nl (cn hm (fun hm => ?_) fun hm => ?_))
 ·refine sr (Nv (.slice none 0 0) rfl ?_)
  cases hm
  exact Cw.ret (ret1 rfl (Res.mk a12 ⟨.slice none 0 0, rfl, (owsN []).sub rfl rfl⟩))
 ·refine sk (sr (la ((b1.up l3).up l11) (mi rfl (ms rfl (cr hm (fun _ => p88 (k0 := 4) (Repo.rd (K := [0]) x0.Commits x0.Heads (h0_0.ul a12) (h0_1.ul a12))) ?_)))))
  rintro z18 _ W20 hm l20 ⟨v0_20, rfl, f20_0⟩
  have a21 := a12.n l20
  refine mv (.tuple [v0_20, vB z18.2].toArray) rfl (Lw.r rfl (R.ext (vs := [v0_20, vB z18.2]) (v := v0_20) rfl rfl) (Lw.r rfl (R.ext (vs := [v0_20, vB z18.2]) (v := vB z18.2) rfl rfl) (Gv v0_20 rfl (Nb rfl (sr (mv v0_20 rfl (Nv v0_20 rfl ?_)))))))
  cases hm
  exact Cw.ret (ret1 rfl (Res.mk a21 ⟨v0_20, rfl, f20_0.s.sub rfl rfl⟩))
theorem p23 {x0 v0_0_ v0_1_ x1 x2 k0 r} (h0 : Rd W K [v0_0_, v0_1_] x0) (h99 : Gl 0 W K) (hm : Vm.impl_BlameOf x0 x1 x2 = some r) : Q1 23 [.agg [v0_0_, v0_1_].toArray, vI x1, vS x2] W [] fun W' v => ∃ u0, v = u0 ∧ Ow W' k0 [] [u0] r :=
 (c23 (h0.view _) (h99.view _) hm).ad (fk k0) fun _ _ ⟨u0, e, f0⟩ => ⟨u0, e, f0.back (fk_LL _)⟩
theorem c89 (m : Nat) : ∀ {W0 : CW} {x0 : Vm.Repo} {v0_0_ : Value} {v0_1_ : Value} {x1 : Int} {x2 : Str} {r : (List Int)} (h0 : Rd W0 [0] [v0_0_, v0_1_] x0) (hm : Vm.spec_l11Of_r m x0 x1 x2 = some r), CallR Tryz.prog 89 [.agg [v0_0_, v0_1_].toArray, vI x1, vS x2].toArray W0.w (Res W0 LL fun Wf v => ∃ (u0 : Value), v = u0 ∧ OwS Wf LL [] [u0] r) := by
 induction m with
 | zero => intro W0 x0 v0_0_ v0_1_ x1 x2 r h0 hm; exact absurd hm (by unfold Vm.spec_l11Of_r; exact nofun)
 | succ m ih =>
  have p89 : ∀ {W : CW} {K : List Nat} {x0 : Vm.Repo} {v0_0_ : Value} {v0_1_ : Value} {x1 : Int} {x2 : Str} {k0 : Nat} {r : (List Int)} (h0 : Rd W K [v0_0_, v0_1_] x0) (hm : Vm.spec_l11Of_r m x0 x1 x2 = some r), CallR Tryz.prog 89 [.agg [v0_0_, v0_1_].toArray, vI x1, vS x2].toArray W.w (Res W [] fun W' v => ∃ (u0 : Value), v = u0 ∧ Ow W' k0 [] [u0] r) := fun {W} {K} {x0} {v0_0_} {v0_1_} {x1} {x2} {k0} {r} h0 hm => (ih (W0 := W.view K []) (h0.view _) hm).ad (fk k0) fun _ _ ⟨u0, e, f0⟩ => ⟨u0, e, f0.back (fk_LL _)⟩
  intro W0 x0 v0_0_ v0_1_ x1 x2 r h0 hm
  unfold Vm.spec_l11Of_r at hm
  obtain ⟨w0_0, w0_1, he0, h0_0, h0_1⟩ := Repo.split h0
  simp only [List.cons.injEq, and_true, true_and] at he0
  obtain ⟨rfl, rfl⟩ := he0
  refine CallR.of Tryz.func89 rfl rfl rfl rfl (sr (bo 2 rfl fun g1 W1 l1 b1 => ?_))
  have a2 := l1.o
  refine Nv (.slice none 0 0) rfl (sr (fl b1 rfl (mi rfl ?_)))
  obtain ⟨u3, e4, hm⟩ := ob hm
  refine Lw.r rfl (R.ix (α := Commit) (h0_0.ul a2) e4 rfl rfl rfl) (Lw.fa rfl ?_)
  obtain ⟨v6, c7, r8⟩ := (Commit.at2 ((h0_0.ul a2).at_ e4)).cell rfl
  refine Lw.r rfl (R.ld rfl rfl c7) (ms rfl (cr hm (fun _ => p121 r8) ?_))
  rintro z9 _ W11 hm l11 ⟨v0_11, rfl, f11_0⟩
  have s12 := f11_0.sub (M := [0]) rfl
  have a13 := a2.n l11
  refine mv (.tuple [v0_11, vB z9.2].toArray) rfl (Lw.r rfl (R.ext (vs := [v0_11, vB z9.2]) (v := v0_11) rfl rfl) (Lw.r rfl (R.ext (vs := [v0_11, vB z9.2]) (v := vB z9.2) rfl rfl) (Gv v0_11 rfl (Nb rfl (sr (Lw.t rfl (T.lit0 (α := Int) 3 []) ?_))))))
  rintro v15 _ ⟨W15, rfl, l15, o15⟩
  have a16 := l15.o
  refine Nv v15 rfl (ssr (mb rfl (Lw.r rfl (R.not rfl) (nl (cn hm (fun hm => ?_) fun hm => ?_)))))
  ·refine sr (mv v15 rfl (Nv v15 rfl ?_))
   cases hm
   exact Cw.ret (ret1 rfl (Res.mk (a13.trans a16) ⟨v15, rfl, o15.s.sub rfl rfl⟩))
  ·refine sk (ssr (Ni rfl (Cw.block ?_)))
   obtain ⟨K24, hK24, hm⟩ := jn_e hm
   refine Cw.loop 32 41 [9, 10] (fun m l w => ∃ y19 y22 v20 W23, CW.w W23 = w ∧ Le [3] W15 W23 ∧ l = [v20, vI y22] ∧ Ow W23 3 [] [v20] y19 ∧ Vm.spec_l11Of_l1 x1 z9 K24 m y19 y22 = some r) _ ⟨([] : List Int), 0, v15, W15, rfl, Le.refl _ _, rfl, o15, hm⟩ ?_
   rintro (_ | m25) _ _ σ ⟨y19, y22, v20, W23, rfl, l23, rfl, o21, hm⟩
   ·cases hm
   unfold Vm.spec_l11Of_l1 at hm
   have a26 := l23.s
   have b27 := ((b1.up l11).up l15).up l23
   refine ssr (mi rfl (mv v0_11 rfl (Lw.ln z9.1 (s12.ul (a16.trans a26)) rfl (Lw.lt rfl (nl (cn hm (fun hm => ?_) fun hm => ?_))))))
   ·refine sk (Cw.seq (Cw.block (rg (mv v20 rfl (mi rfl (Lw.t rfl (T.bs 4 [vI x1] (cs := [vI x1]) rfl rfl (bsv rfl)) ?_))))))
    rintro _ _ ⟨g30, W30, rfl, rfl, l30, b30⟩
    obtain ⟨q34, e35, hm⟩ := ob hm
    refine Lw.t rfl (T.app1S (α := Int) (K' := []) (o21.up l30) b30 (rdI _) rfl rfl e35) ?_
    rintro v36 _ ⟨W36, rfl, l36, o36⟩
    exact Nv v36 rfl (rg (mi rfl (Lw.add rfl (Ni rfl ((agm) ⟨q34, w64 (y22 + 1), v36, W36, rfl, ((l23.j l30).j l36).w, rfl, o36, hm⟩)))))
   ·refine Cw.exit ?_
    rw [hK24] at hm
    refine ssr (fl b27 rfl (mi rfl ?_))
    obtain ⟨u40, e41, hm⟩ := ob hm
    have s42 := h0_0.ul ((a13.trans a16).trans a26)
    refine Lw.r rfl (R.ix (α := Commit) s42 e41 rfl rfl rfl) (Lw.fa rfl ?_)
    obtain ⟨v43, c44, r45⟩ := (Commit.at0 (s42.at_ e41)).cell rfl
    refine Lw.r rfl (R.ld rfl rfl c44) (Lw.ln u40.Parents r45 rfl (Lw.eq rfl (nl (cn hm (fun hm => ?_) fun hm => ?_))))
    ·refine sr (mv v20 rfl (Nv v20 rfl ?_))
     cases hm
     exact Cw.ret (ret1 rfl (Res.mk ((a13.trans a16).trans a26) ⟨v20, rfl, o21.s.sub rfl rfl⟩))
    ·refine sk (sr (fl b27 rfl (mi rfl ?_)))
     obtain ⟨u47, e48, hm⟩ := ob hm
     refine Lw.r rfl (R.ix (α := Commit) s42 e48 rfl rfl rfl) (Lw.fa rfl ?_)
     obtain ⟨v49, c50, r51⟩ := (Commit.at0 (s42.at_ e48)).cell rfl
     refine Lw.r rfl (R.ld rfl rfl c50) ?_
     obtain ⟨u52, e53, hm⟩ := ob hm
     refine Lw.r rfl (R.ix (α := Int) r51 e53 rfl rfl rfl) (Lw.r rfl (R.ld rfl rfl (r51.at_ e53).int) (Ni rfl (sr (fl b27 rfl (mi rfl ?_)))))
     obtain ⟨u54, e55, hm⟩ := ob hm
     refine Lw.r rfl (R.ix (α := Commit) s42 e55 rfl rfl rfl) (Lw.fa rfl ?_)
     obtain ⟨v56, c57, r58⟩ := (Commit.at2 (s42.at_ e55)).cell rfl
     refine Lw.r rfl (R.ld rfl rfl c57) (ms rfl (cr hm (fun _ => p121 r58) ?_))
     rintro z59 _ W61 hm l61 ⟨v0_61, rfl, f61_0⟩
     have s62 := f61_0.sub (M := [0]) rfl
     have a63 := l61.o
     refine mv (.tuple [v0_61, vB z59.2].toArray) rfl (Lw.r rfl (R.ext (vs := [v0_61, vB z59.2]) (v := v0_61) rfl rfl) (Lw.r rfl (R.ext (vs := [v0_61, vB z59.2]) (v := vB z59.2) rfl rfl) (Gv v0_61 rfl (Nb rfl (ssr (mb rfl (Lw.r rfl (R.not rfl) (nl (cn hm (fun hm => ?_) fun hm => ?_)))))))))
     ·refine sr (mv v20 rfl (Nv v20 rfl ?_))
      cases hm
      exact Cw.ret (ret1 rfl (Res.mk (((a13.trans a16).trans a26).trans a63) ⟨v20, rfl, (o21.up l61).s.sub rfl rfl⟩))
     ·refine sk (sr (la (b27.up l61) (mi rfl (ms rfl (cr hm (fun _ => p89 (k0 := 5) (Repo.rd (K := [0]) x0.Commits x0.Heads (h0_0.ul (((a13.trans a16).trans a26).trans a63)) (h0_1.ul (((a13.trans a16).trans a26).trans a63)))) ?_)))))
      rintro z69 v0_71 W71 hm l71 ⟨_, rfl, f71_0⟩
      have a72 := l71.o
      refine Nv v0_71 rfl (sr (mv v0_61 rfl (mv v0_11 rfl (cr hm (fun _ => p122 (k0 := 6) (s62.ul a72) (s12.ul (((a16.trans a26).trans a63).trans a72))) ?_))))
      rintro z77 v0_79 W79 hm l79 ⟨_, rfl, f79_0⟩
      have a80 := ((((a13.trans a16).trans a26).trans a63).trans a72).n l79
      refine Nv v0_79 rfl (ssr (Ni rfl (Cw.block ?_)))
      obtain ⟨K88, hK88, hm⟩ := jn_e hm
      refine Cw.loop 80 100 [16] (fun m l w => ∃ y84 y85 W87, CW.w W87 = w ∧ Le [3] W79 W87 ∧ l = [vI y84] ∧ Ow W87 3 [] [v20] y85 ∧ Vm.spec_l11Of_l2 z69 z77 K88 m y84 y85 = some r) _ ⟨0, y19, W79, rfl, Le.refl _ _, rfl, (((o21.up l61).up l71).up l79), hm⟩ ?_
      rintro (_ | m89) _ _ σ ⟨y84, y85, W87, rfl, l87, rfl, o86, hm⟩
      ·cases hm
      unfold Vm.spec_l11Of_l2 at hm
      have a90 := a80.t l87
      have o92 := f79_0.up l87
      refine ssr (mi rfl (mv v0_79 rfl (Lw.ln z77 o92.rd rfl (Lw.lt rfl (nl (cn hm (fun hm => ?_) fun hm => ?_))))))
      ·refine sk ?_
       obtain ⟨K98, hK98, hm⟩ := jn_e hm
       refine Cw.join 86 100 [] (fun l w => ∃ y95 W97, CW.w W97 = w ∧ Le [3] W87 W97 ∧ l = [] ∧ Ow W97 3 [] [v20] y95 ∧ K98 y95 = some r) ?_ ?_
       ·rintro _ _ σ ⟨y95, W97, rfl, l97, rfl, o96, hm⟩
        rw [hK98] at hm
        exact rg (mi rfl (Lw.add rfl (Ni rfl ((agm) ⟨w64 (y84 + 1), y95, W97, rfl, (l87.j l97).w, rfl, o96, hm⟩))))
       ·refine Cw.block (sr (mv v0_79 rfl (mi rfl ?_)))
        obtain ⟨u103, e104, hm⟩ := ob hm
        refine Lw.r rfl (R.ix (α := Int) o92.rd e104 rfl rfl rfl) (Lw.r rfl (R.ld rfl rfl (o92.rd.at_ e104).int) (Lw.ge rfl (nl (cn hm (fun hm => ?_) fun hm => ?_))))
        ·refine Cw.draw [] [(0, 0), (1, 0), (2, 0), (3, 0), (4, 1), (5, 0), (6, 0), (7, 0), (8, 1), (9, 0), (10, 3)] mixed (by kernel_rfl) fun W106 l106 => ?_
         have o109 := ((f71_0.up l79).up l87).up l106
         refine Dv v20 rfl (Dv v0_79 rfl (Di rfl ?_))
         obtain ⟨u112, e113, hm⟩ := ob hm
         refine Mw.p rfl rfl (fun _ => R.ix (α := Int) (o92.up l106).rd e113 rfl rfl rfl) (Mw.q rfl rfl (fun _ c => R.ld rfl rfl (cl_cell ((o92.up l106).rd.at_ e113).1 rfl ((o92.up l106).rd.at_ e113).int c)) (Dv v0_71 rfl (Di rfl ?_)))
         obtain ⟨u114, e115, hm⟩ := ob hm
         refine Mw.p rfl rfl (fun _ => R.ix (α := Int) o109.rd e115 rfl rfl rfl) (Mw.q rfl rfl (fun _ c => R.ld rfl rfl (cl_cell (o109.rd.at_ e115).1 rfl (o109.rd.at_ e115).int c)) ?_)
         obtain ⟨u116, e117, hm⟩ := ob hm
         refine Mw.p rfl rfl (fun _ => R.ix (α := Int) (o86.up l106).rd e117 rfl rfl rfl) ?_
         obtain ⟨q119, e120, hm⟩ := ob hm
         refine Mw.lu rfl (T.stS (K' := []) (o86.up l106) (rdI _) e120 rfl rfl rfl) ?_
         rintro _ _ ⟨W118, rfl, l118, o118⟩
         exact Mw.nil ((ag) ⟨q119, W118, rfl, (l106.j l118).w, rfl, o118, hm⟩)
        ·exact sk ((ag) ⟨y85, W87, rfl, Le.refl _ _, rfl, o86, hm⟩)
      ·refine Cw.exit ?_
       rw [hK88] at hm
       refine sr (mv v20 rfl (Nv v20 rfl ?_))
       cases hm
       exact Cw.ret (ret1 rfl (Res.mk a90 ⟨v20, rfl, o86.s.sub rfl rfl⟩))
theorem p89 {x0 v0_0_ v0_1_ x1 x2 k0 r} (h0 : Rd W K [v0_0_, v0_1_] x0) (hm : Vm.spec_l11Of x0 x1 x2 = some r) : Q1 89 [.agg [v0_0_, v0_1_].toArray, vI x1, vS x2] W [] fun W' v => ∃ u0, v = u0 ∧ Ow W' k0 [] [u0] r :=
 (c89 (x1.toNat + 2) (W0 := W.view K []) (h0.view _) hm).ad (fk k0) fun _ _ ⟨u0, e, f0⟩ => ⟨u0, e, f0.back (fk_LL _)⟩
theorem c25 {x0 v0_0_ v0_1_ x1 x2 r} (h0 : Rd W0 [0] [v0_0_, v0_1_] x0) (hm : Vm.spec_BlameOf x0 x1 x2 = some r) : Q0 25 [.agg [v0_0_, v0_1_].toArray, vI x1, vS x2] W0 fun Wf v => ∃ u0, v = u0 ∧ OwS Wf LL [] [u0] r := by
 unfold Vm.spec_BlameOf at hm
 obtain ⟨w0_0, w0_1, he0, h0_0, h0_1⟩ := Repo.split h0
 simp only [List.cons.injEq, and_true, true_and] at he0
 obtain ⟨rfl, rfl⟩ := he0
 refine CallR.of Tryz.func25 rfl rfl rfl rfl (sr (bo 2 rfl fun g1 W1 l1 b1 => ?_))
 have a2 := l1.o
 refine Nv (.slice none 0 0) rfl (Cw.seq ?_)
 obtain ⟨K5, hK5, hm⟩ := jn_e hm
 refine Cw.join 7 18 [18] (fun l w => ∃ y3 W4, CW.w W4 = w ∧ Le [] W1 W4 ∧ l = [vB y3] ∧ K5 y3 = some r) ?_ ?_
 ·rintro _ _ σ ⟨y3, W4, rfl, l4, rfl, hm⟩
  rw [hK5] at hm
  have a6 := a2.n l4
  refine cn hm (fun hm => ?_) fun hm => ?_
  ·refine sr (Nv (.slice none 0 0) rfl ?_)
   cases hm
   exact Cw.ret (ret1 rfl (Res.mk a6 ⟨.slice none 0 0, rfl, (owsN []).sub rfl rfl⟩))
  ·refine sk (sr (la (b1.up l4) (mi rfl (ms rfl (cr hm (fun _ => p89 (k0 := 3) (Repo.rd (K := [0]) x0.Commits x0.Heads (h0_0.ul a6) (h0_1.ul a6))) ?_)))))
   rintro z11 v0_13 W13 hm l13 ⟨_, rfl, f13_0⟩
   have a14 := a6.n l13
   refine Nv v0_13 rfl ?_
   cases hm
   exact Cw.ret (ret1 rfl (Res.mk a14 ⟨v0_13, rfl, f13_0.s.sub rfl rfl⟩))
 ·refine rg (la b1 (ca hm (fun _ => p74 (Repo.rd (K := [0]) x0.Commits x0.Heads (h0_0.ul a2) (h0_1.ul a2))) fun z18 W20 hm l20 => ?_))
  have a21 := a2.n l20
  refine Lw.r rfl (R.not rfl) (mb rfl (bs hm (fun hc23 hm => ?_) fun hc23 hm => ?_))
  ·exact psk 7 hc23 rfl (Pb hc23 rfl (nl ((ag) ⟨true, W20, rfl, l20, rfl, hm⟩)))
  ·exact wak 7 hc23 (mi rfl (fl (b1.up l20) rfl (Lw.ln x0.Commits (h0_0.ul a21) rfl (Lw.sub rfl (ca hm (fun _ => p84) fun z25 W27 hm l27 => Lw.r rfl (R.not rfl) (Pb hc23 rfl (nl ((ag) ⟨(!z25), W27, rfl, (l20.j l27).w, rfl, hm⟩))))))))
theorem p25 {x0 v0_0_ v0_1_ x1 x2 k0 r} (h0 : Rd W K [v0_0_, v0_1_] x0) (hm : Vm.spec_BlameOf x0 x1 x2 = some r) : Q1 25 [.agg [v0_0_, v0_1_].toArray, vI x1, vS x2] W [] fun W' v => ∃ u0, v = u0 ∧ Ow W' k0 [] [u0] r :=
 (c25 (h0.view _) hm).ad (fk k0) fun _ _ ⟨u0, e, f0⟩ => ⟨u0, e, f0.back (fk_LL _)⟩
end Go.Sx
