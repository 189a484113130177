/- Walks: each function answers as its model, printed by a program of ours. Conditions: the arguments read as they are given. -/
import Derived.Test.YtidkloialdageaaGreatDoorDTs
import Derived.Test.YtidkloialdageaaGreatDoorDM0
import Derived.Test.YtidkloialdageaaGreatDoorDW0
namespace Go.Sx
open Go Go.Proofs Go.Vm Rp
set_option linter.unusedVariables false
set_option linter.unusedSimpArgs false
variable {W W0 : CW} {K : List Nat}
theorem c176 {x0 v0_6_ r} (h0 : Rd W0 [0] [vI x0.Kind, vS x0.Branch, vS x0.Who, vS x0.Path, vS x0.To, vI x0.At, v0_6_] x0) (hm : Vm.spec_l19Ok x0 = some r) : Q0 176 [.agg [vI x0.Kind, vS x0.Branch, vS x0.Who, vS x0.Path, vS x0.To, vI x0.At, v0_6_].toArray] W0 fun Wf v => v = vB r := by
 unfold Vm.spec_l19Ok at hm
 obtain ⟨w0_0, he0, h0_6⟩ := Op.split h0
 simp only [List.cons.injEq, and_true, true_and] at he0
 obtain rfl := he0
 refine CallR.of Tryz.func176 rfl rfl rfl rfl (sr (bo 2 rfl fun g1 W1 l1 b1 => ?_))
 have a2 := l1.o
 refine Nb rfl (Cw.seq ?_)
 obtain ⟨K5, hK5, hm⟩ := jn_e hm
 refine Cw.join 3 12 [12] (fun l w => ∃ y3 W4, CW.w W4 = w ∧ Le [] W1 W4 ∧ l = [vB y3] ∧ K5 y3 = some r) ?_ ?_
 ·rintro _ _ σ ⟨y3, W4, rfl, l4, rfl, hm⟩
  rw [hK5] at hm
  have a6 := a2.n l4
  have b7 := b1.up l4
  refine cn hm (fun hm => ?_) fun hm => ?_
  ·exact sr (Nb rfl (.ret (rt hm a6)))
  ·refine sk (ssr (fl b7 rfl (nl (Cw.block (sr (Lw.eq rfl (Nb rfl (cn hm (fun hm => ?_) fun hm => ?_))))))))
   ·obtain ⟨K12, hK12, hm⟩ := jn_e hm
    refine Cw.join 17 28 [2] (fun l w => ∃ y10 W11, CW.w W11 = w ∧ Le [] W4 W11 ∧ l = [vB y10] ∧ K12 y10 = some r) ?_ ?_
    ·rintro _ _ σ ⟨y10, W11, rfl, l11, rfl, hm⟩
     rw [hK12] at hm
     have a13 := a6.n l11
     exact .ret (rt hm a13)
    ·refine rg (la b7 (ca hm (fun _ => p186 (Op.rd (K := [0]) x0.Kind x0.Branch x0.Who x0.Path x0.To x0.At x0.Text (h0_6.ul a6))) fun z16 W18 hm l18 => ?_))
     have a19 := a6.n l18
     refine mb rfl (bs hm (fun hc21 hm => ?_) fun hc21 hm => ?_)
     ·refine wak 3 hc21 (fl (b7.up l18) rfl (ca hm (fun _ => p163) fun z22 W24 hm l24 => ?_))
      have a25 := a19.n l24
      refine Pb hc21 rfl (mb rfl (bs hm (fun hc27 hm => ?_) fun hc27 hm => ?_))
      ·exact wak 3 hc27 (fl ((b7.up l18).up l24) rfl (ca hm (fun _ => p187 (h0_6.ul a25)) fun z29 W31 hm l31 => Pb hc27 rfl (Nb rfl ((ag) ⟨z29, W31, rfl, ((l18.j l24).j l31).w, rfl, hm⟩))))
      ·exact psk 3 hc27 rfl (Pb hc27 rfl (Nb rfl ((ag) ⟨false, W24, rfl, (l18.j l24).w, rfl, hm⟩)))
     ·exact psk 3 hc21 rfl (Pb hc21 rfl (mb rfl (psk 3 rfl rfl (Pb rfl rfl (Nb rfl ((ag) ⟨false, W18, rfl, l18, rfl, hm⟩))))))
   ·refine sr (Lw.eq rfl (Nb rfl (cn hm (fun hm => ?_) fun hm => ?_)))
    ·obtain ⟨K37, hK37, hm⟩ := jn_e hm
     refine Cw.join 31 37 [2] (fun l w => ∃ y35 W36, CW.w W36 = w ∧ Le [] W4 W36 ∧ l = [vB y35] ∧ K37 y35 = some r) ?_ ?_
     ·rintro _ _ σ ⟨y35, W36, rfl, l36, rfl, hm⟩
      rw [hK37] at hm
      have a38 := a6.n l36
      exact .ret (rt hm a38)
     ·refine rg (la b7 (ca hm (fun _ => p186 (Op.rd (K := [0]) x0.Kind x0.Branch x0.Who x0.Path x0.To x0.At x0.Text (h0_6.ul a6))) fun z41 W43 hm l43 => mb rfl (bs hm (fun hc46 hm => ?_) fun hc46 hm => ?_)))
      ·exact wak 3 hc46 (fl (b7.up l43) rfl (ca hm (fun _ => p163) fun z47 W49 hm l49 => Pb hc46 rfl (Nb rfl ((ag) ⟨z47, W49, rfl, (l43.j l49).w, rfl, hm⟩))))
      ·exact psk 3 hc46 rfl (Pb hc46 rfl (Nb rfl ((ag) ⟨false, W43, rfl, l43, rfl, hm⟩)))
    ·refine sr (Lw.eq rfl (Nb rfl (cn hm (fun hm => ?_) fun hm => ?_)))
     ·obtain ⟨K55, hK55, hm⟩ := jn_e hm
      refine Cw.join 40 51 [2] (fun l w => ∃ y53 W54, CW.w W54 = w ∧ Le [] W4 W54 ∧ l = [vB y53] ∧ K55 y53 = some r) ?_ ?_
      ·rintro _ _ σ ⟨y53, W54, rfl, l54, rfl, hm⟩
       rw [hK55] at hm
       have a56 := a6.n l54
       exact .ret (rt hm a56)
      ·refine rg (la b7 (ca hm (fun _ => p186 (Op.rd (K := [0]) x0.Kind x0.Branch x0.Who x0.Path x0.To x0.At x0.Text (h0_6.ul a6))) fun z59 W61 hm l61 => mb rfl (bs hm (fun hc64 hm => ?_) fun hc64 hm => ?_)))
       ·refine wak 3 hc64 (fl (b7.up l61) rfl (ca hm (fun _ => p163) fun z65 W67 hm l67 => Pb hc64 rfl (mb rfl (bs hm (fun hc70 hm => ?_) fun hc70 hm => ?_))))
        ·exact wak 3 hc70 (fl ((b7.up l61).up l67) rfl (ca hm (fun _ => p163) fun z71 W73 hm l73 => Pb hc70 rfl (Nb rfl ((ag) ⟨z71, W73, rfl, ((l61.j l67).j l73).w, rfl, hm⟩))))
        ·exact psk 3 hc70 rfl (Pb hc70 rfl (Nb rfl ((ag) ⟨false, W67, rfl, (l61.j l67).w, rfl, hm⟩)))
       ·exact psk 3 hc64 rfl (Pb hc64 rfl (mb rfl (psk 3 rfl rfl (Pb rfl rfl (Nb rfl ((ag) ⟨false, W61, rfl, l61, rfl, hm⟩))))))
     ·obtain ⟨K78, hK78, hm⟩ := jn_e hm
      refine Cw.join 52 54 [52] (fun l w => ∃ y76 W77, CW.w W77 = w ∧ Le [] W4 W77 ∧ l = [vB y76] ∧ K78 y76 = some r) ?_ ?_
      ·rintro _ _ σ ⟨y76, W77, rfl, l77, rfl, hm⟩
       rw [hK78] at hm
       have a79 := a6.n l77
       have b80 := b7.up l77
       refine cn hm (fun hm => ?_) fun hm => ?_
       ·obtain ⟨K84, hK84, hm⟩ := jn_e hm
        refine Cw.join 55 61 [2] (fun l w => ∃ y82 W83, CW.w W83 = w ∧ Le [] W77 W83 ∧ l = [vB y82] ∧ K84 y82 = some r) ?_ ?_
        ·rintro _ _ σ ⟨y82, W83, rfl, l83, rfl, hm⟩
         rw [hK84] at hm
         have a85 := a79.n l83
         exact .ret (rt hm a85)
        ·refine rg (la b80 (ca hm (fun _ => p186 (Op.rd (K := [0]) x0.Kind x0.Branch x0.Who x0.Path x0.To x0.At x0.Text (h0_6.ul a79))) fun z88 W90 hm l90 => mb rfl (bs hm (fun hc93 hm => ?_) fun hc93 hm => ?_)))
         ·exact wak 3 hc93 (fl (b80.up l90) rfl (ca hm (fun _ => p138) fun z94 W96 hm l96 => Pb hc93 rfl (Nb rfl ((ag) ⟨z94, W96, rfl, (l90.j l96).w, rfl, hm⟩))))
         ·exact psk 3 hc93 rfl (Pb hc93 rfl (Nb rfl ((ag) ⟨false, W90, rfl, l90, rfl, hm⟩)))
       ·obtain ⟨K101, hK101, hm⟩ := jn_e hm
        refine Cw.join 62 64 [62] (fun l w => ∃ y99 W100, CW.w W100 = w ∧ Le [] W77 W100 ∧ l = [vB y99] ∧ K101 y99 = some r) ?_ ?_
        ·rintro _ _ σ ⟨y99, W100, rfl, l100, rfl, hm⟩
         rw [hK101] at hm
         have a102 := a79.n l100
         refine cn hm (fun hm => ?_) fun hm => ?_
         ·obtain ⟨K107, hK107, hm⟩ := jn_e hm
          refine Cw.join 65 71 [2] (fun l w => ∃ y105 W106, CW.w W106 = w ∧ Le [] W100 W106 ∧ l = [vB y105] ∧ K107 y105 = some r) ?_ ?_
          ·rintro _ _ σ ⟨y105, W106, rfl, l106, rfl, hm⟩
           rw [hK107] at hm
           have a108 := a102.n l106
           exact .ret (rt hm a108)
          ·refine rg (la (b80.up l100) (ca hm (fun _ => p186 (Op.rd (K := [0]) x0.Kind x0.Branch x0.Who x0.Path x0.To x0.At x0.Text (h0_6.ul a102))) fun z111 W113 hm l113 => mb rfl (bs hm (fun hc116 hm => ?_) fun hc116 hm => ?_)))
           ·exact wak 3 hc116 (fl ((b80.up l100).up l113) rfl (ca hm (fun _ => p84) fun z117 W119 hm l119 => Pb hc116 rfl (Nb rfl ((ag) ⟨z117, W119, rfl, (l113.j l119).w, rfl, hm⟩))))
           ·exact psk 3 hc116 rfl (Pb hc116 rfl (Nb rfl ((ag) ⟨false, W113, rfl, l113, rfl, hm⟩)))
         ·exact sk (sr (Nb rfl (.ret (rt hm a102))))
        ·refine sr (Lw.eq rfl (Nb rfl (cn hm (fun hm => ?_) fun hm => ?_)))
         ·exact sk ((ag) ⟨((x0.Kind : Int) == (6 : Int)), W77, rfl, Le.refl _ _, rfl, hm⟩)
         ·exact rg (Lw.eq rfl (Nb rfl ((ag) ⟨((x0.Kind : Int) == (7 : Int)), W77, rfl, Le.refl _ _, rfl, hm⟩)))
      ·refine sr (Lw.eq rfl (Nb rfl (cn hm (fun hm => ?_) fun hm => ?_)))
       ·exact sk ((ag) ⟨((x0.Kind : Int) == (4 : Int)), W4, rfl, Le.refl _ _, rfl, hm⟩)
       ·exact rg (Lw.eq rfl (Nb rfl ((ag) ⟨((x0.Kind : Int) == (5 : Int)), W4, rfl, Le.refl _ _, rfl, hm⟩)))
 ·refine rg (fl b1 rfl (ca hm (fun _ => p138) fun z124 W126 hm l126 => Lw.r rfl (R.not rfl) (mb rfl (bs hm (fun hc129 hm => ?_) fun hc129 hm => ?_))))
  ·exact psk 4 hc129 rfl (Pb hc129 rfl (nl ((ag) ⟨true, W126, rfl, l126, rfl, hm⟩)))
  ·exact wak 4 hc129 (fl (b1.up l126) rfl (ca hm (fun _ => p138) fun z130 W132 hm l132 => Lw.r rfl (R.not rfl) (Pb hc129 rfl (nl ((ag) ⟨(!z130), W132, rfl, (l126.j l132).w, rfl, hm⟩)))))
theorem p176 {x0 v0_6_ r} (h0 : Rd W K [vI x0.Kind, vS x0.Branch, vS x0.Who, vS x0.Path, vS x0.To, vI x0.At, v0_6_] x0) (hm : Vm.spec_l19Ok x0 = some r) : Q1 176 [.agg [vI x0.Kind, vS x0.Branch, vS x0.Who, vS x0.Path, vS x0.To, vI x0.At, v0_6_].toArray] W [] fun W' v => v = vB r :=
 (c176 (h0.view _) hm).ad (fk 0) fun _ _ e => e
theorem c130 {x0 v0_0_ v0_1_ x1 r} (h0 : Rd W0 [0] [v0_0_, v0_1_] x0) (hm : Vm.spec_l7At x0 x1 = some r) : Q0 130 [.agg [v0_0_, v0_1_].toArray, vS x1] W0 fun Wf v => v = vI r := by
 unfold Vm.spec_l7At at hm
 obtain ⟨w0_0, w0_1, he0, h0_0, h0_1⟩ := Repo.split h0
 simp only [List.cons.injEq, and_true, true_and] at he0
 obtain ⟨rfl, rfl⟩ := he0
 refine CallR.of Tryz.func130 rfl rfl rfl rfl (sr (bo 2 rfl fun g1 W1 l1 b1 => ?_))
 have a2 := l1.o
 refine Ni rfl (ssr (Ni rfl (Cw.block ?_)))
 obtain ⟨K6, hK6, hm⟩ := jn_e hm
 refine Cw.loop 6 26 [4, 5] (fun m l w => ∃ y3 y4 W5, CW.w W5 = w ∧ Le [] W1 W5 ∧ l = [vI y3, vI y4] ∧ Vm.spec_l7At_l1 x0 x1 K6 m y3 y4 = some r) _ ⟨0, 0, W1, rfl, Le.refl _ _, rfl, hm⟩ ?_
 rintro (_ | m7) _ _ σ ⟨y3, y4, W5, rfl, l5, rfl, hm⟩
 ·cases hm
 unfold Vm.spec_l7At_l1 at hm
 have a8 := a2.n l5
 have b9 := b1.up l5
 refine ssr ?_
 have s10 := h0_1.ul a8
 refine mi rfl (fl b9 rfl (Lw.ln x0.Heads s10 rfl (Lw.lt rfl (nl (cn hm (fun hm => ?_) fun hm => ?_)))))
 ·refine sk (Cw.seq (Cw.block (sr (fl b9 rfl (mi rfl ?_)))))
  obtain ⟨u12, e13, hm⟩ := ob hm
  refine Lw.r rfl (R.ix (α := Head) s10 e13 rfl rfl rfl) (Lw.fa rfl (Lw.r rfl (R.ld rfl rfl (Head.at0 (s10.at_ e13)).str) (ms rfl (Lw.seq rfl (nl (cn hm (fun hm => ?_) fun hm => ?_))))))
  ·refine sr (fl b9 rfl (mi rfl ?_))
   obtain ⟨u15, e16, hm⟩ := ob hm
   exact Lw.r rfl (R.ix (α := Head) s10 e16 rfl rfl rfl) (Lw.fa rfl (Lw.r rfl (R.ld rfl rfl (Head.at1 (s10.at_ e16)).int) (Ni rfl (.ret (rt hm a8)))))
  ·exact sk (rg (mi rfl (Lw.add rfl (Ni rfl ((agm) ⟨y3, w64 (y4 + 1), W5, rfl, l5, rfl, hm⟩)))))
 ·refine Cw.exit ?_
  rw [hK6] at hm
  exact sr (Ni rfl (.ret (rt hm a8)))
theorem p130 {x0 v0_0_ v0_1_ x1 r} (h0 : Rd W K [v0_0_, v0_1_] x0) (hm : Vm.spec_l7At x0 x1 = some r) : Q1 130 [.agg [v0_0_, v0_1_].toArray, vS x1] W [] fun W' v => v = vI r :=
 (c130 (h0.view _) hm).ad (fk 0) fun _ _ e => e
theorem c165 {x0 x1 r} (hm : Vm.spec_l4In x0 x1 = some r) : Q0 165 [vS x0, vS x1] W0 fun Wf v => v = vB r := by
 unfold Vm.spec_l4In at hm
 refine CallR.of Tryz.func165 rfl rfl rfl rfl (sr (Nb rfl ?_))
 obtain ⟨K3, hK3, hm⟩ := jn_e hm
 refine Cw.join 5 24 [4] (fun l w => ∃ y1 W2, CW.w W2 = w ∧ Le [] W0 W2 ∧ l = [vB y1] ∧ K3 y1 = some r) ?_ ?_
 ·rintro _ _ σ ⟨y1, W2, rfl, l2, rfl, hm⟩
  rw [hK3] at hm
  have a4 := l2.o
  exact .ret (rt hm a4)
 ·refine rg (ms rfl (Lw.r rfl (R.lenS rfl) (ms rfl (Lw.r rfl (R.lenS rfl) (Lw.gt rfl (mb rfl (bs hm (fun hc5 hm => ?_) fun hc5 hm => ?_)))))))
  ·refine wak 6 hc5 (ms rfl (ms rfl (Lw.r rfl (R.lenS rfl) ?_)))
   obtain ⟨q6, e7, hm⟩ := ob hm
   refine Lw.r rfl (R.ss e7 rfl (.inl ⟨rfl, rfl⟩) (.inr rfl)) (ms rfl (Lw.seq rfl (Pb hc5 rfl (mb rfl (bs hm (fun hc8 hm => ?_) fun hc8 hm => ?_)))))
   ·refine wak 5 hc8 (ms rfl (ms rfl (Lw.r rfl (R.lenS rfl) ?_)))
    obtain ⟨u9, e10, hm⟩ := ob hm
    exact Lw.r rfl (R.chm e10 rfl rfl) (Lw.eq rfl (Pb hc8 rfl (Nb rfl ((ag) ⟨(((UInt8.toNat u9 : Int) : Int) == (47 : Int)), W0, rfl, Le.refl _ _, rfl, hm⟩))))
   ·exact psk 5 hc8 rfl (Pb hc8 rfl (Nb rfl ((ag) ⟨false, W0, rfl, Le.refl _ _, rfl, hm⟩)))
  ·exact psk 6 hc5 rfl (Pb hc5 rfl (mb rfl (psk 5 rfl rfl (Pb rfl rfl (Nb rfl ((ag) ⟨false, W0, rfl, Le.refl _ _, rfl, hm⟩))))))
theorem p165 {x0 x1 r} (hm : Vm.spec_l4In x0 x1 = some r) : Q1 165 [vS x0, vS x1] W [] fun W' v => v = vB r :=
 (c165 (W0 := W.view [] [])  hm).ad (fk 0) fun _ _ e => e
theorem c139 {x0 v0_ r} (h0 : Rd W0 [0] [v0_] x0) (hm : Vm.spec_l4Ok x0 = some r) : Q0 139 [v0_] W0 fun Wf v => v = vB r := by
 unfold Vm.spec_l4Ok at hm
 refine CallR.of Tryz.func139 rfl rfl rfl rfl (sr (Nb rfl (ssr (Ni rfl (Cw.block ?_)))))
 obtain ⟨K5, hK5, hm⟩ := jn_e hm
 refine Cw.loop 5 61 [2, 3, 4] (fun m l w => ∃ y1 y2 j3 W4, CW.w W4 = w ∧ Le [] W0 W4 ∧ l = [vB y1, vI y2, j3] ∧ Vm.spec_l4Ok_l1 x0 K5 m y1 y2 = some r) _ ⟨false, 0, undef, W0, rfl, Le.refl _ _, rfl, hm⟩ ?_
 rintro (_ | m6) _ _ σ ⟨y1, y2, j3, W4, rfl, l4, rfl, hm⟩
 ·cases hm
 unfold Vm.spec_l4Ok_l1 at hm
 have a7 := l4.o
 refine ssr (mi rfl (mv v0_ rfl (Lw.ln x0 (h0.ul a7) rfl (Lw.lt rfl (nl (cn hm (fun hm => ?_) fun hm => ?_))))))
 ·refine sk (Cw.seq (Cw.block (Cw.seq ?_)))
  obtain ⟨K12, hK12, hm⟩ := jn_e hm
  refine Cw.join 11 44 [44] (fun l w => ∃ y10 W11, CW.w W11 = w ∧ Le [] W4 W11 ∧ l = [vB y10] ∧ K12 y10 = some r) ?_ ?_
  ·rintro _ _ σ ⟨y10, W11, rfl, l11, rfl, hm⟩
   rw [hK12] at hm
   have a13 := a7.n l11
   refine cn hm (fun hm => ?_) fun hm => ?_
   ·exact sr (Nb rfl (.ret (rt hm a13)))
   ·refine sk (sr (Ni rfl (Cw.block ?_)))
    obtain ⟨K18, hK18, hm⟩ := jn_e hm
    refine Cw.loop 45 61 [2, 4] (fun m l w => ∃ y15 y16 W17, CW.w W17 = w ∧ Le [] W11 W17 ∧ l = [vB y15, vI y16] ∧ Vm.spec_l4Ok_l2 x0 y2 K18 m y15 y16 = some r) _ ⟨y1, 0, W11, rfl, Le.refl _ _, rfl, hm⟩ ?_
    rintro (_ | m19) _ _ σ ⟨y15, y16, W17, rfl, l17, rfl, hm⟩
    ·cases hm
    unfold Vm.spec_l4Ok_l2 at hm
    have a20 := a13.n l17
    refine ssr (mi rfl (mv v0_ rfl (Lw.ln x0 (h0.ul a20) rfl (Lw.lt rfl (nl (cn hm (fun hm => ?_) fun hm => ?_))))))
    ·refine sk (Cw.seq (Cw.block (Cw.seq (Cw.draw [] [(0, 0), (1, 0), (2, 0), (3, 0), (4, 1), (5, 0), (6, 0), (7, 0), (8, 0), (9, 1), (10, 3)] mixed (by kernel_rfl) fun W23 l23 => ?_))))
     have a24 := a20.n l23
     refine Dv v0_ rfl (Di rfl ?_)
     obtain ⟨u25, e26, hm⟩ := ob hm
     have s27 := h0.ul a24
     refine Mw.p rfl rfl (fun _ => R.ix (α := File) s27 e26 rfl rfl rfl) (Df rfl (Mw.q rfl rfl (fun _ c => R.ld rfl rfl (cl_cell (File.at0 (s27.at_ e26)).1 rfl (File.at0 (s27.at_ e26)).str c)) (Dv v0_ rfl (Di rfl ?_))))
     obtain ⟨u28, e29, hm⟩ := ob hm
     refine Mw.p rfl rfl (fun _ => R.ix (α := File) s27 e29 rfl rfl rfl) (Df rfl (Mw.q rfl rfl (fun _ c => R.ld rfl rfl (cl_cell (File.at0 (s27.at_ e29)).1 rfl (File.at0 (s27.at_ e29)).str c)) ?_))
     obtain ⟨z30, e31, hm⟩ := ob hm
     refine Mw.l rfl rfl (T.call rfl (p165   e31)) ?_
     rintro _ _ ⟨W32, rfl, l32, rfl⟩
     have a33 := a24.n l32
     refine Mw.nil (cn hm (fun hm => ?_) fun hm => ?_)
     ·exact sr (Nb rfl (.ret (rt hm a33)))
     ·exact sk (rg (mi rfl (Lw.add rfl (Ni rfl ((agm) ⟨y15, w64 (y16 + 1), W32, rfl, ((l17.j l23).j l32).w, rfl, hm⟩)))))
    ·refine Cw.exit ?_
     rw [hK18] at hm
     exact rg (mi rfl (Lw.add rfl (Ni rfl ((agm) ⟨y15, w64 (y2 + 1), vI y16, W17, rfl, ((l4.j l11).j l17).w, rfl, hm⟩))))
  ·refine Cw.draw [] [(0, 0), (1, 0), (2, 0), (3, 0), (4, 1), (5, 2), (6, 0), (7, 0), (8, 0), (9, 0), (10, 0), (11, 0), (12, 1), (13, 2), (14, 0), (15, 0), (16, 0), (17, 0), (18, 0), (19, 0), (20, 0), (21, 0), (22, 0), (23, 0), (24, 1), (25, 0), (26, 0), (27, 0), (28, 0), (29, 0), (30, 1), (31, 0), (32, 0), (33, 0)] mixed (by kernel_rfl) fun W35 l35 => ?_
   have a36 := a7.n l35
   refine Dv v0_ rfl (Di rfl ?_)
   obtain ⟨u37, e38, hm⟩ := ob hm
   have s39 := h0.ul a36
   refine Mw.p rfl rfl (fun _ => R.ix (α := File) s39 e38 rfl rfl rfl) (Df rfl (Mw.q rfl rfl (fun _ c => R.ld rfl rfl (cl_cell (File.at0 (s39.at_ e38)).1 rfl (File.at0 (s39.at_ e38)).str c)) ?_))
   obtain ⟨z40, e41, hm⟩ := ob hm
   refine Mw.t rfl rfl (T.call rfl (p163   e41)) ?_
   rintro _ _ ⟨W42, rfl, l42, rfl⟩
   have a43 := l42.o
   refine m0 l42 fun d42 => Mw.p rfl rfl (fun _ => R.not rfl) (Db rfl (bs hm (fun hc44 hm => ?_) fun hc44 hm => ?_))
   ·exact dps 7 hc44 rfl (Mw.p rfl rfl (fun _ => R.pk hc44 rfl (v := vB true) rfl) (Db rfl (dps 3 rfl rfl (dpu 12 rfl (dps 1 rfl rfl (Mw.p rfl rfl (fun _ => R.pk rfl rfl (v := vB true) rfl) (Mw.nil ((ag) ⟨true, W42, rfl, (l35.j l42).w, rfl, hm⟩))))))))
   ·refine Wp hc44 rfl (fun _ => R.mv (v := v0_) rfl) (Wp hc44 rfl (fun _ => R.mv (v := vI y2) rfl) ?_)
    obtain ⟨u45, e46, hm⟩ := ob hm
    refine Wp hc44 rfl (fun _ => R.ix (α := File) s39 e46 rfl rfl rfl) (Wp hc44 rfl (fun _ => R.fa rfl) ?_)
    obtain ⟨v47, c48, r49⟩ := (File.at1 (s39.at_ e46)).cell rfl
    refine Wq hc44 rfl (fun _ c => R.ld rfl rfl (cl_cell (File.at1 (s39.at_ e46)).1 rfl c48 c)) ?_
    obtain ⟨z51, e52, hm⟩ := ob hm
    refine Wt hc44 rfl (T.call rfl (p164  (r49.ul a43) e52)) ?_
    rintro _ _ ⟨W53, rfl, l53, rfl⟩
    refine mc d42 l53 fun d53 => Wp hc44 rfl (fun _ => R.not rfl) (Mw.p rfl rfl (fun _ => R.pk hc44 rfl (v := vB (!z51)) rfl) (Db rfl (bs hm (fun hc55 hm => ?_) fun hc55 hm => ?_)))
    ·exact dps 3 hc55 rfl (dpu 12 rfl (dps 1 hc55 rfl (Mw.p rfl rfl (fun _ => R.pk hc55 rfl (v := vB true) rfl) (Mw.nil ((ag) ⟨true, W53, rfl, ((l35.j l42).j l53).w, rfl, hm⟩)))))
    ·refine Wp hc55 rfl (fun _ => R.mv (v := vI y2) rfl) (Wp hc55 rfl (fun _ => R.gt rfl rfl) (Wp hc55 rfl (fun _ => R.mv (v := vB (decide ((0 : Int) < (y2 : Int)))) rfl) (bs hm (fun hc56 hm => ?_) fun hc56 hm => ?_)))
     ·refine Wp hc56 rfl (fun _ => R.mv (v := v0_) rfl) (Wp hc56 rfl (fun _ => R.mv (v := vI y2) rfl) ?_)
      obtain ⟨u57, e58, hm⟩ := ob hm
      refine Wp hc56 rfl (fun _ => R.ix (α := File) s39 e58 rfl rfl rfl) (Wp hc56 rfl (fun _ => R.fa rfl) (Wq hc56 rfl (fun _ c => R.ld rfl rfl (cl_cell (File.at0 (s39.at_ e58)).1 rfl (File.at0 (s39.at_ e58)).str c)) (Wp hc56 rfl (fun _ => R.mv (v := v0_) rfl) (Wp hc56 rfl (fun _ => R.mv (v := vI y2) rfl) (Wp hc56 rfl (fun _ => R.sub rfl rfl) ?_)))))
      obtain ⟨u59, e60, hm⟩ := ob hm
      exact Wp hc56 rfl (fun _ => R.ix (α := File) s39 e60 rfl rfl rfl) (Wp hc56 rfl (fun _ => R.fa rfl) (Wq hc56 rfl (fun _ c => R.ld rfl rfl (cl_cell (File.at0 (s39.at_ e60)).1 rfl (File.at0 (s39.at_ e60)).str c)) (Wp hc56 rfl (fun _ => R.sle rfl rfl) (Wp hc55 rfl (fun _ => R.pk hc56 rfl (v := vB (Op.bytesLess u57.Path u59.Path || u57.Path == u59.Path)) rfl) (Mw.p rfl rfl (fun _ => R.pk hc55 rfl (v := vB (Op.bytesLess u57.Path u59.Path || u57.Path == u59.Path)) rfl) (Mw.nil ((ag) ⟨(Op.bytesLess u57.Path u59.Path || u57.Path == u59.Path), W53, rfl, ((l35.j l42).j l53).w, rfl, hm⟩)))))))
     ·exact dps 12 hc56 rfl (Wp hc55 rfl (fun _ => R.pk hc56 rfl (v := vB false) rfl) (Mw.p rfl rfl (fun _ => R.pk hc55 rfl (v := vB false) rfl) (Mw.nil ((ag) ⟨false, W53, rfl, ((l35.j l42).j l53).w, rfl, hm⟩))))
 ·refine Cw.exit ?_
  rw [hK5] at hm
  exact sr (mv v0_ rfl (Lw.ln x0 (h0.ul a7) rfl (Lw.le rfl (Nb rfl (.ret (rt hm a7))))))
theorem p139 {x0 v0_ r} (h0 : Rd W K [v0_] x0) (hm : Vm.spec_l4Ok x0 = some r) : Q1 139 [v0_] W [] fun W' v => v = vB r :=
 (c139 (h0.view _) hm).ad (fk 0) fun _ _ e => e
theorem c133 {x0 v0_ r} (h0 : Rd W0 [0] [v0_] x0) (hm : Vm.spec_l4Copy x0 = some r) : Q0 133 [v0_] W0 fun Wf v => ∃ u0, v = u0 ∧ OwS Wf LL [] [u0] r := by
 unfold Vm.spec_l4Copy at hm
 refine CallR.of Tryz.func133 rfl rfl rfl rfl (sr (Nv (.slice none 0 0) rfl (sr (Lw.t rfl (T.lit0 (α := File) 2 []) ?_))))
 rintro v1 _ ⟨W1, rfl, l1, o1⟩
 have a2 := l1.o
 refine Nv v1 rfl (ssr (Ni rfl (Cw.block ?_)))
 obtain ⟨K8, hK8, hm⟩ := jn_e hm
 refine Cw.loop 6 27 [3, 4] (fun m l w => ∃ y3 y6 v4 W7, CW.w W7 = w ∧ Le [2, 3] W1 W7 ∧ l = [v4, vI y6] ∧ Ow W7 2 [] [v4] y3 ∧ Vm.spec_l4Copy_l1 x0 K8 m y3 y6 = some r) _ ⟨([] : List File), 0, v1, W1, rfl, Le.refl _ _, rfl, o1, hm⟩ ?_
 rintro (_ | m9) _ _ σ ⟨y3, y6, v4, W7, rfl, l7, rfl, o5, hm⟩
 ·cases hm
 unfold Vm.spec_l4Copy_l1 at hm
 have a10 := a2.t l7
 refine ssr (mi rfl (mv v0_ rfl (Lw.ln x0 (h0.ul a10) rfl (Lw.lt rfl (nl (cn hm (fun hm => ?_) fun hm => ?_))))))
 ·refine sk (Cw.seq (Cw.block (Cw.draw [2, 3] [(0, 0), (1, 0), (2, 0), (3, 0), (4, 0), (5, 1), (7, 0), (8, 0), (9, 0), (10, 0), (11, 1), (6, 2), (12, 2), (13, 0), (14, 2), (15, 2), (16, 0)] mixed (by kernel_rfl) fun W13 l13 => ?_)))
  have a14 := a10.n l13
  refine Dv v4 rfl (Dv v0_ rfl (Di rfl ?_))
  obtain ⟨u16, e17, hm⟩ := ob hm
  have s18 := h0.ul a14
  refine Mw.p rfl rfl (fun _ => R.ix (α := File) s18 e17 rfl rfl rfl) (Df rfl (Mw.q rfl rfl (fun _ c => R.ld rfl rfl (cl_cell (File.at0 (s18.at_ e17)).1 rfl (File.at0 (s18.at_ e17)).str c)) (Dv v0_ rfl (Di rfl ?_))))
  obtain ⟨u19, e20, hm⟩ := ob hm
  refine Mw.p rfl rfl (fun _ => R.ix (α := File) s18 e20 rfl rfl rfl) (Df rfl ?_)
  obtain ⟨v21, c22, r23⟩ := (File.at1 (s18.at_ e20)).cell rfl
  refine Mw.q rfl rfl (fun _ c => R.ld rfl rfl (cl_cell (File.at1 (s18.at_ e20)).1 rfl c22 c)) (Mw.t rfl rfl (T.lit0 (α := Str) 3 []) ?_)
  rintro v24 _ ⟨W24, rfl, l24, o24⟩
  have a25 := l24.o
  refine m0 l24 fun d24 => ?_
  obtain ⟨q27, e28, hm⟩ := ob hm
  refine Mw.t rfl rfl (T.appP (α := Str) o24 (r23.ul a25) rfl rfl e28) ?_
  rintro v29 _ ⟨W29, rfl, l29, o29⟩
  refine mc d24 l29 fun d29 => Mw.p rfl rfl (fun _ => R.bd (zs := [vS ([] : Str), .slice none 0 0]) (cs := [vS u16.Path, v29]) [(0, vS u16.Path), (1, v29)] rfl rfl rfl (bp_cons rfl rfl (bp_cons o29.oc rfl bp_nil))) (Mw.t rfl rfl (T.bs 4 [.agg [vS u16.Path, v29].toArray] (cs := [vS u16.Path, v29]) rfl rfl (bsA rfl)) ?_)
  rintro _ _ ⟨g33, W33, rfl, rfl, l33, b33⟩
  refine mc d29 l33 fun d33 => ?_
  obtain ⟨q37, e38, hm⟩ := ob hm
  refine Mw.t rfl rfl (T.app1 (α := File) (J := [3]) (K' := []) ((((o5.up l13).up l24).up l29).up l33) b33 (File.own u16.Path q27 (o29.up l33).s) rfl rfl e38) ?_
  rintro v39 _ ⟨W39, rfl, l39, o39⟩
  exact mc d33 l39 fun d39 => Hv v39 rfl (Mw.nil (rg (mi rfl (Lw.add rfl (Ni rfl ((agm) ⟨q37, w64 (y6 + 1), v39, W39, rfl, (((((l7.j l13).j l24).j l29).j l33).j l39).w, rfl, o39, hm⟩))))))
 ·refine Cw.exit ?_
  rw [hK8] at hm
  refine sr (mv v4 rfl (Nv v4 rfl ?_))
  cases hm
  exact Cw.ret (ret1 rfl (Res.mk a10 ⟨v4, rfl, o5.s.sub rfl rfl⟩))
theorem p133 {x0 v0_ k0 r} (h0 : Rd W K [v0_] x0) (hm : Vm.spec_l4Copy x0 = some r) : Q1 133 [v0_] W [] fun W' v => ∃ u0, v = u0 ∧ Ow W' k0 [] [u0] r :=
 (c133 (h0.view _) hm).ad (fk k0) fun _ _ ⟨u0, e, f0⟩ => ⟨u0, e, f0.back (fk_LL _)⟩
theorem c184 {x0 v0_ x1 v1_1_ r} (h0 : Rd W0 [0] [v0_] x0) (h1 : Rd W0 [0] [vS x1.Path, v1_1_] x1) (hm : Vm.spec_l4Set x0 x1 = some r) : Q0 184 [v0_, .agg [vS x1.Path, v1_1_].toArray] W0 fun Wf v => ∃ u0, v = u0 ∧ OwS (α := List (Sh Vm.File)) Wf LL [0] [u0] r := by
 unfold Vm.spec_l4Set at hm
 obtain ⟨w1_0, he1, h1_1⟩ := File.split h1
 simp only [List.cons.injEq, and_true, true_and] at he1
 obtain rfl := he1
 refine CallR.of Tryz.func184 rfl rfl rfl rfl (sr (bo 2 rfl fun g1 W1 l1 b1 => ?_))
 have a2 := l1.o
 refine Nv (.slice none 0 0) rfl (sr (Lw.t rfl (T.lit0 (α := File) 3 []) ?_))
 rintro v3 _ ⟨W3, rfl, l3, o3⟩
 have a4 := a2.n l3
 refine Nv v3 rfl (sr (Nb rfl (ssr (Ni rfl (Cw.block ?_)))))
 obtain ⟨K12, hK12, hm⟩ := jn_e hm
 obtain ⟨W13, ew13, l13, o13⟩ := o3.toSh
 have a14 := a4.t l13
 rw [← ew13]
 refine Cw.loop 9 51 [5, 6, 7] (fun m l w => ∃ (y6 : List Vm.File) (y9 : Bool) (y10 : Int) (v7 : Value) (W11 : CW), W11.w = w ∧ Le [3, 5] W13 W11 ∧ l = [v7, vB y9, vI y10] ∧ Ow (α := List (Sh Vm.File)) W11 3 [0] [v7] y6 ∧ Vm.spec_l4Set_l1 x0 x1 K12 m y6 y9 y10 = some r) _ ⟨([] : List File), false, 0, v3, W13, rfl, Le.refl _ _, rfl, o13, hm⟩ ?_
 rintro (_ | m16) _ _ σ ⟨y6, y9, y10, v7, W11, rfl, l11, rfl, o8, hm⟩
 ·cases hm
 unfold Vm.spec_l4Set_l1 at hm
 have a17 := a14.t l11
 have b18 := ((b1.up l3).up l13).up l11
 refine ssr (mi rfl (mv v0_ rfl (Lw.ln x0 (h0.ul a17) rfl (Lw.lt rfl (nl (cn hm (fun hm => ?_) fun hm => ?_))))))
 ·refine sk ?_
  obtain ⟨K26, hK26, hm⟩ := jn_e hm
  refine Cw.join 15 51 [5, 6] (fun l w => ∃ (y21 : List Vm.File) (y24 : Bool) (v22 : Value) (W25 : CW), W25.w = w ∧ Le [3, 5] W11 W25 ∧ l = [v22, vB y24] ∧ Ow (α := List (Sh Vm.File)) W25 3 [0] [v22] y21 ∧ K26 y21 y24 = some r) ?_ ?_
  ·rintro _ _ σ ⟨y21, y24, v22, W25, rfl, l25, rfl, o23, hm⟩
   rw [hK26] at hm
   exact rg (mi rfl (Lw.add rfl (Ni rfl ((agm) ⟨y21, y24, w64 (y10 + 1), v22, W25, rfl, (l11.j l25).w, rfl, o23, hm⟩))))
  ·refine Cw.block ?_
   obtain ⟨K34, hK34, hm⟩ := jn_e hm
   refine Cw.join 15 36 [5, 6] (fun l w => ∃ (y29 : List Vm.File) (y32 : Bool) (v30 : Value) (W33 : CW), W33.w = w ∧ Le [3, 5] W11 W33 ∧ l = [v30, vB y32] ∧ Ow (α := List (Sh Vm.File)) W33 3 [0] [v30] y29 ∧ K34 y29 y32 = some r) ?_ ?_
   ·rintro _ _ σ ⟨y29, y32, v30, W33, rfl, l33, rfl, o31, hm⟩
    rw [hK34] at hm
    have a35 := a17.t l33
    refine Cw.seq (Cw.draw [] [(0, 0), (1, 0), (2, 0), (3, 0), (4, 1), (5, 0), (6, 1), (7, 0)] mixed (by kernel_rfl) fun W37 l37 => ?_)
    have a38 := a35.n l37
    refine Dv v0_ rfl (Di rfl ?_)
    obtain ⟨u41, e42, hm⟩ := ob hm
    have s43 := h0.ul a38
    refine Mw.p rfl rfl (fun _ => R.ix (α := File) s43 e42 rfl rfl rfl) (Df rfl (Mw.q rfl rfl (fun _ c => R.ld rfl rfl (cl_cell (File.at0 (s43.at_ e42)).1 rfl (File.at0 (s43.at_ e42)).str c)) (Dfl ((b18.up l33).up l37) rfl rfl rfl (Mw.p rfl rfl (fun _ => R.sne rfl rfl) (Mw.nil (cn hm (fun hm => ?_) fun hm => ?_))))))
    ·refine rg (mv v30 rfl (mv v0_ rfl (mi rfl ?_)))
     obtain ⟨u45, e46, hm⟩ := ob hm
     refine Lw.r rfl (R.ix (α := File) s43 e46 rfl rfl rfl) ?_
     obtain ⟨x47, c48, _, r49⟩ := (s43.at_ e46).cells
     obtain ⟨v50, rfl, r51⟩ := File.split r49
     refine Lw.r rfl (R.lda c48 rfl rfl) (Lw.t rfl (T.bs 4 [.agg [vS u45.Path, v50].toArray] (cs := [vS u45.Path, v50]) rfl rfl (bsA rfl)) ?_)
     rintro _ _ ⟨g52, W52, rfl, rfl, l52, b52⟩
     have a53 := l52.o
     obtain ⟨q57, e58, hm⟩ := ob hm
     refine Lw.t rfl (T.app1S (α := Sh Vm.File) (K' := [0]) ((o31.up l37).up l52) b52 (File.rd (K := [0]) u45.Path u45.Text (r51.ul a53)).sh1 rfl rfl e58) ?_
     rintro v59 _ ⟨W59, rfl, l59, o59⟩
     exact Nv v59 rfl ((ag) ⟨q57, y32, v59, W59, rfl, (((l33.j l37).j l52).j l59).w, rfl, o59, hm⟩)
    ·exact sk ((ag) ⟨y29, y32, v30, W37, rfl, (l33.j l37).w, rfl, (o31.up l37), hm⟩)
   ·obtain ⟨K65, hK65, hm⟩ := jn_e hm
    refine Cw.join 15 26 [26] (fun l w => ∃ y63 W64, CW.w W64 = w ∧ Le [] W11 W64 ∧ l = [vB y63] ∧ K65 y63 = some r) ?_ ?_
    ·rintro _ _ σ ⟨y63, W64, rfl, l64, rfl, hm⟩
     rw [hK65] at hm
     have a66 := a17.n l64
     refine cn hm (fun hm => ?_) fun hm => ?_
     ·refine Cw.seq (Cw.draw [3, 5] [(0, 0), (1, 0), (2, 1), (4, 0), (5, 1), (3, 2), (6, 2), (7, 0), (8, 2), (9, 2), (10, 0)] mixed (by kernel_rfl) fun W70 l70 => ?_)
      have a71 := a66.n l70
      have b73 := (b18.up l64).up l70
      refine Dv v7 rfl (Dfl b73 rfl rfl rfl (Dfl b73 rfl rfl rfl (Mw.t rfl rfl (T.lit0 (α := Str) 5 []) ?_)))
      rintro v74 _ ⟨W74, rfl, l74, o74⟩
      have a75 := a71.n l74
      refine m0 l74 fun d74 => ?_
      obtain ⟨q78, e79, hm⟩ := ob hm
      refine Mw.t rfl rfl (T.appP (α := Str) o74 (h1_1.ul a75) rfl rfl e79) ?_
      rintro v80 _ ⟨W80, rfl, l80, o80⟩
      refine mc d74 l80 fun d80 => Mw.p rfl rfl (fun _ => R.bd (zs := [vS ([] : Str), .slice none 0 0]) (cs := [vS x1.Path, v80]) [(0, vS x1.Path), (1, v80)] rfl rfl rfl (bp_cons rfl rfl (bp_cons o80.oc rfl bp_nil))) (Mw.t rfl rfl (T.bs 6 [.agg [vS x1.Path, v80].toArray] (cs := [vS x1.Path, v80]) rfl rfl (bsA rfl)) ?_)
      rintro _ _ ⟨g85, W85, rfl, rfl, l85, b85⟩
      refine mc d80 l85 fun d85 => ?_
      obtain ⟨W90, ew90, l90, dj90⟩ := dyeE _ 5
      rw [← ew90]
      have s91 : Rd (α := List Str) W90 [0] [v80] q78 := by rw [dj90]; exact ((o80.up l85).rd.dye 5).sub (M := [0]) rfl
      obtain ⟨q96, e97, hm⟩ := ob hm
      refine Mw.t rfl rfl (T.app1S (α := Sh Vm.File) (K' := [0]) ((((((o8.up l64).up l70).up l74).up l80).up l85).up l90) (b85.up l90) (File.rd (K := [0]) x1.Path q78 s91).sh1 rfl rfl e97) ?_
      rintro v98 _ ⟨W98, rfl, l98, o98⟩
      refine ⟨⟨_, rfl, ((l74.sub (M := [3, 5]) rfl).trans ((l80.sub (M := [3, 5]) rfl).trans ((l85.sub (M := [3, 5]) rfl).trans ((l90.sub (M := [3, 5]) rfl).trans (l98.sub (M := [3, 5]) rfl)))))⟩, ?_⟩
      exact Hv v98 rfl (Mw.nil (rg (Nb rfl ((ag) ⟨q96, true, v98, W98, rfl, ((((((l64.j l70).j l74).j l80).j l85).j l90).j l98).w, rfl, o98, hm⟩))))
     ·exact sk ((ag) ⟨y6, y9, v7, W64, rfl, l64.w, rfl, (o8.up l64), hm⟩)
    ·refine Cw.draw [] [(0, 0), (1, 0), (2, 0), (3, 0), (4, 0), (5, 0), (6, 0), (7, 1), (8, 0), (9, 1), (10, 0), (11, 0)] mixed (by kernel_rfl) fun W102 l102 => ?_
     have a103 := a17.n l102
     refine Db rfl (Mw.p rfl rfl (fun _ => R.not rfl) (Db rfl (bs hm (fun hc106 hm => ?_) fun hc106 hm => ?_)))
     ·refine Wp hc106 rfl (fun _ => R.mv (v := v0_) rfl) (Wp hc106 rfl (fun _ => R.mv (v := vI y10) rfl) ?_)
      obtain ⟨u107, e108, hm⟩ := ob hm
      exact Wp hc106 rfl (fun _ => R.ix (α := File) (h0.ul a103) e108 rfl rfl rfl) (Wp hc106 rfl (fun _ => R.fa rfl) (Wq hc106 rfl (fun _ c => R.ld rfl rfl (cl_cell (File.at0 ((h0.ul a103).at_ e108)).1 rfl (File.at0 ((h0.ul a103).at_ e108)).str c)) (Wp hc106 rfl (fun _ => R.fa rfl) (Wq hc106 rfl (fun _ c => R.ld (v := vS x1.Path) rfl rfl ((b18.up l102).clc rfl rfl c)) (Wp hc106 rfl (fun _ => R.sge rfl rfl) (Mw.p rfl rfl (fun _ => R.pk hc106 rfl (v := vB (!Op.bytesLess u107.Path x1.Path)) rfl) (Mw.nil ((ag) ⟨(!Op.bytesLess u107.Path x1.Path), W102, rfl, l102, rfl, hm⟩))))))))
     ·exact dps 8 hc106 rfl (Mw.p rfl rfl (fun _ => R.pk hc106 rfl (v := vB false) rfl) (Mw.nil ((ag) ⟨false, W102, rfl, l102, rfl, hm⟩)))
 ·refine Cw.exit ?_
  rw [hK12] at hm
  obtain ⟨K114, hK114, hm⟩ := jn_e hm
  refine Cw.join 52 63 [5] (fun l w => ∃ (y110 : List Vm.File) (v111 : Value) (W113 : CW), W113.w = w ∧ Le [3, 7] W11 W113 ∧ l = [v111] ∧ Ow (α := List (Sh Vm.File)) W113 3 [0] [v111] y110 ∧ K114 y110 = some r) ?_ ?_
  ·rintro _ _ σ ⟨y110, v111, W113, rfl, l113, rfl, o112, hm⟩
   rw [hK114] at hm
   have a115 := a17.t l113
   refine sr (mv v111 rfl (Nv v111 rfl ?_))
   cases hm
   exact Cw.ret (ret1 rfl (Res.mk a115 ⟨v111, rfl, o112.s.sub rfl rfl⟩))
  ·refine sr (mb rfl (Lw.r rfl (R.not rfl) (nl (cn hm (fun hm => ?_) fun hm => ?_))))
   ·refine Cw.draw [3, 7] [(0, 0), (1, 0), (2, 1), (4, 0), (5, 1), (3, 2), (6, 2), (7, 0), (8, 2), (9, 2), (10, 0)] mixed (by kernel_rfl) fun W118 l118 => ?_
    have a119 := a17.n l118
    refine Dv v7 rfl (Dfl (b18.up l118) rfl rfl rfl (Dfl (b18.up l118) rfl rfl rfl (Mw.t rfl rfl (T.lit0 (α := Str) 7 []) ?_)))
    rintro v122 _ ⟨W122, rfl, l122, o122⟩
    have a123 := a119.n l122
    refine m0 l122 fun d122 => ?_
    obtain ⟨q126, e127, hm⟩ := ob hm
    refine Mw.t rfl rfl (T.appP (α := Str) o122 (h1_1.ul a123) rfl rfl e127) ?_
    rintro v128 _ ⟨W128, rfl, l128, o128⟩
    refine mc d122 l128 fun d128 => Mw.p rfl rfl (fun _ => R.bd (zs := [vS ([] : Str), .slice none 0 0]) (cs := [vS x1.Path, v128]) [(0, vS x1.Path), (1, v128)] rfl rfl rfl (bp_cons rfl rfl (bp_cons o128.oc rfl bp_nil))) (Mw.t rfl rfl (T.bs 8 [.agg [vS x1.Path, v128].toArray] (cs := [vS x1.Path, v128]) rfl rfl (bsA rfl)) ?_)
    rintro _ _ ⟨g133, W133, rfl, rfl, l133, b133⟩
    refine mc d128 l133 fun d133 => ?_
    obtain ⟨W138, ew138, l138, dj138⟩ := dyeE _ 7
    rw [← ew138]
    have s139 : Rd (α := List Str) W138 [0] [v128] q126 := by rw [dj138]; exact ((o128.up l133).rd.dye 7).sub (M := [0]) rfl
    obtain ⟨q144, e145, hm⟩ := ob hm
    refine Mw.t rfl rfl (T.app1S (α := Sh Vm.File) (K' := [0]) (((((o8.up l118).up l122).up l128).up l133).up l138) (b133.up l138) (File.rd (K := [0]) x1.Path q126 s139).sh1 rfl rfl e145) ?_
    rintro v146 _ ⟨W146, rfl, l146, o146⟩
    refine ⟨⟨_, rfl, ((l122.sub (M := [3, 7]) rfl).trans ((l128.sub (M := [3, 7]) rfl).trans ((l133.sub (M := [3, 7]) rfl).trans ((l138.sub (M := [3, 7]) rfl).trans (l146.sub (M := [3, 7]) rfl)))))⟩, ?_⟩
    exact Hv v146 rfl (Mw.nil ((ag) ⟨q144, v146, W146, rfl, (((((l118.j l122).j l128).j l133).j l138).j l146).w, rfl, o146, hm⟩))
   ·exact sk ((ag) ⟨y6, v7, W11, rfl, Le.refl _ _, rfl, o8, hm⟩)
theorem p184 {x0 v0_ x1 v1_1_ k0 r} (h0 : Rd W K [v0_] x0) (h1 : Rd W K [vS x1.Path, v1_1_] x1) (hm : Vm.spec_l4Set x0 x1 = some r) : Q1 184 [v0_, .agg [vS x1.Path, v1_1_].toArray] W [] fun W' v => ∃ u0, v = u0 ∧ Ow (α := List (Sh Vm.File)) W' k0 (0 :: K) [u0] r :=
 (c184 (h0.view _) (h1.view _) hm).ad (fk k0) fun _ _ ⟨u0, e, f0⟩ => ⟨u0, e, f0.backS (fk_LL _) rfl⟩
theorem c174 {x0 v0_ x1 v1_1_ r} (h0 : Rd W0 [0] [v0_] x0) (h1 : Rd W0 [0] [vS x1.Path, v1_1_] x1) (hm : Vm.spec_TreeSet x0 x1 = some r) : Q0 174 [v0_, .agg [vS x1.Path, v1_1_].toArray] W0 fun Wf v => ∃ u0, v = .tuple [u0, vB r.2].toArray ∧ OwS (α := List (Sh Vm.File)) Wf LL [0] [u0] r.1 := by
 unfold Vm.spec_TreeSet at hm
 obtain ⟨w1_0, he1, h1_1⟩ := File.split h1
 simp only [List.cons.injEq, and_true, true_and] at he1
 obtain rfl := he1
 refine CallR.of Tryz.func174 rfl rfl rfl rfl (sr (bo 2 rfl fun g1 W1 l1 b1 => ?_))
 have a2 := l1.o
 refine Gv (.slice none 0 0) rfl (Nb rfl (ssr (mv v0_ rfl (ca hm (fun _ => p139 (h0.ul a2)) fun z4 W6 hm l6 => ?_))))
 have a7 := a2.n l6
 refine Lw.r rfl (R.not rfl) (nl (cn hm (fun hm => ?_) fun hm => ?_))
 ·refine sr (Gv (.slice none 0 0) rfl (Nb rfl ?_))
  cases hm
  exact Cw.ret (ret2 rfl rfl (Res.mk a7 ⟨.slice none 0 0, rfl, (owsNSh [0]).sub rfl rfl⟩))
 ·refine sk (Cw.seq (Cw.draw [] [(0, 0), (2, 1), (1, 2), (3, 3), (4, 0)] mixed (by kernel_rfl) fun W10 l10 => ?_))
  have a11 := a7.n l10
  refine Dv v0_ rfl (Mw.q rfl rfl (fun _ c => R.lda (cs := [vS x1.Path, v1_1_]) (((b1.up l6).up l10).clcs rfl c) rfl rfl) ?_)
  obtain ⟨z14, e15, hm⟩ := ob hm
  refine Mw.t rfl rfl (T.call rfl (p133 (k0 := 3) (h0.ul a11) e15)) ?_
  rintro v0_16 _ ⟨W16, rfl, l16, ⟨_, rfl, f16_0⟩⟩
  have a17 := a11.n l16
  refine m0 l16 fun d16 => ?_
  obtain ⟨z20, e21, hm⟩ := ob hm
  refine Mw.l rfl rfl (T.call rfl (p184 (K := [0, 3]) (k0 := 4) (f16_0.rd.sub (M := [0, 3]) rfl) ((File.rd (K := [0]) x1.Path x1.Text (h1_1.ul a17)).sub (M := [0, 3]) rfl) e21)) ?_
  rintro v0_22 _ ⟨W22, rfl, l22, ⟨_, rfl, f22_0⟩⟩
  have o23 : Ow (α := List (Sh Vm.File)) W22 4 [0, 3] [v0_22] z20 := f22_0.sub rfl
  have a24 := a17.n l22
  refine Hv v0_22 rfl (Mw.nil (ssr (mv v0_22 rfl ?_)))
  have s27 : Rd (α := List Vm.File) W22 [4, 0, 3] [v0_22] z20 := Ow.rdSh o23
  refine ca hm (fun _ => p139 (K := [0, 3, 4]) (s27.sub (M := [0, 3, 4]) rfl)) fun z28 W30 hm l30 => ?_
  have a31 := a24.n l30
  refine Lw.r rfl (R.not rfl) (nl (cn hm (fun hm => ?_) fun hm => ?_))
  ·refine sr (mv v0_ rfl (cr hm (fun _ => p133 (k0 := 5) (h0.ul a31)) ?_))
   rintro z37 v0_39 W39 hm l39 ⟨_, rfl, f39_0⟩
   have a40 := a31.n l39
   refine Gv v0_39 rfl (Nb rfl ?_)
   obtain ⟨W44, ew44, l44, o44⟩ := f39_0.toSh
   have a45 := a40.t l44
   cases hm
   rw [← ew44]
   exact Cw.ret (ret2 rfl rfl (Res.mk a45 ⟨v0_39, rfl, o44.s.sub rfl rfl⟩))
  ·refine sk (sr (mv v0_22 rfl (Gv v0_22 rfl (Nb rfl ?_))))
   obtain ⟨W49, ew49, l49, dj49⟩ := dyeE _ 3
   have s50 : Rd (α := List Vm.File) W49 [0] [v0_16] z14 := by rw [dj49]; exact (((f16_0.up l22).up l30).rd.dye 3).sub (M := [0]) rfl
   have o51 : Ow (α := List (Sh Vm.File)) W49 4 [0] [v0_22] z20 := by rw [dj49]; exact ((o23.up l30).dyeA 3 rfl).sub rfl
   have a52 := a31.t l49
   cases hm
   rw [← ew49]
   exact Cw.ret (ret2 rfl rfl (Res.mk a52 ⟨v0_22, rfl, o51.s.sub rfl rfl⟩))
theorem p174 {x0 v0_ x1 v1_1_ k0 r} (h0 : Rd W K [v0_] x0) (h1 : Rd W K [vS x1.Path, v1_1_] x1) (hm : Vm.spec_TreeSet x0 x1 = some r) : Q1 174 [v0_, .agg [vS x1.Path, v1_1_].toArray] W [] fun W' v => ∃ u0, v = .tuple [u0, vB r.2].toArray ∧ Ow (α := List (Sh Vm.File)) W' k0 (0 :: K) [u0] r.1 :=
 (c174 (h0.view _) (h1.view _) hm).ad (fk k0) fun _ _ ⟨u0, e, f0⟩ => ⟨u0, e, f0.backS (fk_LL _) rfl⟩
theorem c74 {x0 v0_0_ v0_1_ r} (h0 : Rd W0 [0] [v0_0_, v0_1_] x0) (hm : Vm.spec_l7Ok x0 = some r) : Q0 74 [.agg [v0_0_, v0_1_].toArray] W0 fun Wf v => v = vB r := by
 unfold Vm.spec_l7Ok at hm
 obtain ⟨w0_0, w0_1, he0, h0_0, h0_1⟩ := Repo.split h0
 simp only [List.cons.injEq, and_true, true_and] at he0
 obtain ⟨rfl, rfl⟩ := he0
 refine CallR.of Tryz.func74 rfl rfl rfl rfl (sr (bo 2 rfl fun g1 W1 l1 b1 => ?_))
 have a2 := l1.o
 refine Nb rfl (ssr (Ni rfl (Cw.block ?_)))
 obtain ⟨K8, hK8, hm⟩ := jn_e hm
 refine Cw.loop 7 66 [2, 3, 4, 5] (fun m l w => ∃ y3 y4 j5 j6 W7, CW.w W7 = w ∧ Le [3] W1 W7 ∧ l = [vB y3, vI y4, j5, j6] ∧ Vm.spec_l7Ok_l1 x0 K8 m y3 y4 = some r) _ ⟨false, 0, undef, undef, W1, rfl, Le.refl _ _, rfl, hm⟩ ?_
 rintro (_ | m9) _ _ σ ⟨y3, y4, j5, j6, W7, rfl, l7, rfl, hm⟩
 ·cases hm
 unfold Vm.spec_l7Ok_l1 at hm
 have a10 := a2.t l7
 have b11 := b1.up l7
 refine ssr ?_
 have s12 := h0_0.ul a10
 refine mi rfl (fl b11 rfl (Lw.ln x0.Commits s12 rfl (Lw.lt rfl (nl (cn hm (fun hm => ?_) fun hm => ?_)))))
 ·refine sk (Cw.seq (Cw.block (sr (fl b11 rfl (mi rfl ?_)))))
  obtain ⟨u14, e15, hm⟩ := ob hm
  refine Lw.r rfl (R.ix (α := Commit) s12 e15 rfl rfl rfl) ?_
  obtain ⟨x16, c17, _, r18⟩ := (s12.at_ e15).cells
  obtain ⟨v19, v21, rfl, r20, r22⟩ := Commit.split r18
  refine Lw.r rfl (R.lda c17 rfl rfl) (al 3 [.slice none 0 0, vS ([] : Str), .slice none 0 0] fun g23 W23 l23 b23 => ?_)
  have a24 := l23.o
  refine sta b23 (oc_cons r20.oc (oc_cons rfl (oc_cons r22.oc oc_nil))) fun W26 l26 b26 => ?_
  have a27 := l26.s
  refine nl (ssr (Ni rfl (Cw.block ?_)))
  obtain ⟨K32, hK32, hm⟩ := jn_e hm
  refine Cw.loop 19 50 [2, 5] (fun m l w => ∃ y29 y30 W31, CW.w W31 = w ∧ Le [] W26 W31 ∧ l = [vB y29, vI y30] ∧ Vm.spec_l7Ok_l2 y4 u14 K32 m y29 y30 = some r) _ ⟨y3, 0, W26, rfl, Le.refl _ _, rfl, hm⟩ ?_
  rintro (_ | m33) _ _ σ ⟨y29, y30, W31, rfl, l31, rfl, hm⟩
  ·cases hm
  unfold Vm.spec_l7Ok_l2 at hm
  have a34 := l31.o
  have b36 := b26.up l31
  refine ssr ?_
  have s37 := r20.ul ((a24.trans a27).trans a34)
  refine mi rfl (fl b36 rfl (Lw.ln u14.Parents s37 rfl (Lw.lt rfl (nl (cn hm (fun hm => ?_) fun hm => ?_)))))
  ·refine sk (Cw.seq (Cw.block ?_))
   obtain ⟨K41, hK41, hm⟩ := jn_e hm
   refine Cw.join 26 50 [50] (fun l w => ∃ y39 W40, CW.w W40 = w ∧ Le [] W31 W40 ∧ l = [vB y39] ∧ K41 y39 = some r) ?_ ?_
   ·rintro _ _ σ ⟨y39, W40, rfl, l40, rfl, hm⟩
    rw [hK41] at hm
    have a42 := (((a10.trans a24).trans a27).trans a34).n l40
    refine cn hm (fun hm => ?_) fun hm => ?_
    ·exact sr (Nb rfl (.ret (rt hm a42)))
    ·exact sk (rg (mi rfl (Lw.add rfl (Ni rfl ((agm) ⟨y29, w64 (y30 + 1), W40, rfl, (l31.j l40).w, rfl, hm⟩)))))
   ·refine Cw.draw [] [(0, 0), (1, 1), (2, 0), (3, 0), (4, 1), (5, 0), (6, 0), (7, 2), (8, 0), (9, 0), (10, 0), (11, 0), (12, 0), (13, 0), (14, 1), (15, 0), (16, 0), (17, 1), (18, 0), (19, 1), (20, 0), (21, 1), (22, 0), (23, 0), (24, 0)] mixed (by kernel_rfl) fun W46 l46 => ?_
    have a47 := ((a24.trans a27).trans a34).n l46
    have b49 := b36.up l46
    refine Dfl b49 rfl rfl rfl (Di rfl ?_)
    obtain ⟨u50, e51, hm⟩ := ob hm
    have s52 := r20.ul a47
    refine Mw.p rfl rfl (fun _ => R.ix (α := Int) s52 e51 rfl rfl rfl) (Mw.q rfl rfl (fun _ c => R.ld rfl rfl (cl_cell (s52.at_ e51).1 rfl (s52.at_ e51).int c)) (Di rfl (Mw.p rfl rfl (fun _ => R.sub rfl rfl) (Dc hm (Le.refl _ _) (fun _ => p84) rfl ?_))))
    rintro z53 _ W55 hm l55 rfl d55
    refine Mw.p rfl rfl (fun _ => R.not rfl) (Db rfl (bs hm (fun hc59 hm => ?_) fun hc59 hm => ?_))
    ·exact dps 3 hc59 rfl (dpu 10 rfl (dps 1 hc59 rfl (Mw.p rfl rfl (fun _ => R.pk hc59 rfl (v := vB true) rfl) (Mw.nil ((ag) ⟨true, W55, rfl, (l46.j l55).w, rfl, hm⟩)))))
    ·refine Wp hc59 rfl (fun _ => R.mv (v := vI y30) rfl) (Wp hc59 rfl (fun _ => R.gt rfl rfl) (Wp hc59 rfl (fun _ => R.mv (v := vB (decide ((0 : Int) < (y30 : Int)))) rfl) (bs hm (fun hc60 hm => ?_) fun hc60 hm => ?_)))
     ·refine Wp hc60 rfl (fun _ => R.fa rfl) (Wq hc60 rfl (fun _ c => R.ld (v := v19) rfl rfl (b49.clc rfl rfl c)) (Wp hc60 rfl (fun _ => R.mv (v := vI y30) rfl) ?_))
      obtain ⟨u61, e62, hm⟩ := ob hm
      refine Wp hc60 rfl (fun _ => R.ix (α := Int) s52 e62 rfl rfl rfl) (Wq hc60 rfl (fun _ c => R.ld rfl rfl (cl_cell (s52.at_ e62).1 rfl (s52.at_ e62).int c)) (Wp hc60 rfl (fun _ => R.fa rfl) (Wq hc60 rfl (fun _ c => R.ld (v := v19) rfl rfl (b49.clc rfl rfl c)) ?_)))
      obtain ⟨u63, e64, hm⟩ := ob hm
      exact Wp hc60 rfl (fun _ => R.ix (α := Int) s52 e64 rfl rfl rfl) (Wq hc60 rfl (fun _ c => R.ld rfl rfl (cl_cell (s52.at_ e64).1 rfl (s52.at_ e64).int c)) (Wp hc60 rfl (fun _ => R.eq rfl rfl) (Wp hc59 rfl (fun _ => R.pk hc60 rfl (v := vB ((u61 : Int) == (u63 : Int))) rfl) (Mw.p rfl rfl (fun _ => R.pk hc59 rfl (v := vB ((u61 : Int) == (u63 : Int))) rfl) (Mw.nil ((ag) ⟨((u61 : Int) == (u63 : Int)), W55, rfl, (l46.j l55).w, rfl, hm⟩))))))
     ·exact dps 10 hc60 rfl (Wp hc59 rfl (fun _ => R.pk hc60 rfl (v := vB false) rfl) (Mw.p rfl rfl (fun _ => R.pk hc59 rfl (v := vB false) rfl) (Mw.nil ((ag) ⟨false, W55, rfl, (l46.j l55).w, rfl, hm⟩))))
  ·refine Cw.exit ?_
   rw [hK32] at hm
   obtain ⟨K67, hK67, hm⟩ := jn_e hm
   refine Cw.join 51 66 [66] (fun l w => ∃ y65 W66, CW.w W66 = w ∧ Le [] W31 W66 ∧ l = [vB y65] ∧ K67 y65 = some r) ?_ ?_
   ·rintro _ _ σ ⟨y65, W66, rfl, l66, rfl, hm⟩
    rw [hK67] at hm
    have a68 := (((a10.trans a24).trans a27).trans a34).n l66
    refine cn hm (fun hm => ?_) fun hm => ?_
    ·exact sr (Nb rfl (.ret (rt hm a68)))
    ·exact sk (rg (mi rfl (Lw.add rfl (Ni rfl ((agm) ⟨y29, w64 (y4 + 1), ptr (bx g23), vI y30, W66, rfl, ((((l7.j l23).j l26).j l31).j l66).w, rfl, hm⟩)))))
   ·refine rg (fl b36 rfl (Lw.ln u14.Parents s37 rfl (Lw.gt rfl (mb rfl (bs hm (fun hc72 hm => ?_) fun hc72 hm => ?_)))))
    ·exact psk 4 hc72 rfl (Pb hc72 rfl (mb rfl (psk 4 rfl rfl (Pb rfl rfl (nl ((ag) ⟨true, W31, rfl, Le.refl _ _, rfl, hm⟩))))))
    ·refine wak 4 hc72 (fl b36 rfl (ca hm (fun _ => p138) fun z73 W75 hm l75 => ?_))
     have a76 := ((a24.trans a27).trans a34).n l75
     refine Lw.r rfl (R.not rfl) (Pb hc72 rfl (mb rfl (bs hm (fun hc79 hm => ?_) fun hc79 hm => ?_)))
     ·exact psk 4 hc79 rfl (Pb hc79 rfl (nl ((ag) ⟨true, W75, rfl, l75, rfl, hm⟩)))
     ·exact wak 4 hc79 (fl (b36.up l75) rfl (ca hm (fun _ => p139 (r22.ul a76)) fun z81 W83 hm l83 => Lw.r rfl (R.not rfl) (Pb hc79 rfl (nl ((ag) ⟨(!z81), W83, rfl, (l75.j l83).w, rfl, hm⟩)))))
 ·refine Cw.exit ?_
  rw [hK8] at hm
  refine ssr (Ni rfl (Cw.block ?_))
  obtain ⟨K90, hK90, hm⟩ := jn_e hm
  refine Cw.loop 67 115 [2, 6] (fun m l w => ∃ y87 y88 W89, CW.w W89 = w ∧ Le [] W7 W89 ∧ l = [vB y87, vI y88] ∧ Vm.spec_l7Ok_l3 x0 K90 m y87 y88 = some r) _ ⟨y3, 0, W7, rfl, Le.refl _ _, rfl, hm⟩ ?_
  rintro (_ | m91) _ _ σ ⟨y87, y88, W89, rfl, l89, rfl, hm⟩
  ·cases hm
  unfold Vm.spec_l7Ok_l3 at hm
  have a92 := a10.n l89
  have b93 := b11.up l89
  refine ssr (mi rfl (fl b93 rfl (Lw.ln x0.Heads (h0_1.ul a92) rfl (Lw.lt rfl (nl (cn hm (fun hm => ?_) fun hm => ?_))))))
  ·refine sk (Cw.seq (Cw.block ?_))
   obtain ⟨K98, hK98, hm⟩ := jn_e hm
   refine Cw.join 74 115 [115] (fun l w => ∃ y96 W97, CW.w W97 = w ∧ Le [] W89 W97 ∧ l = [vB y96] ∧ K98 y96 = some r) ?_ ?_
   ·rintro _ _ σ ⟨y96, W97, rfl, l97, rfl, hm⟩
    rw [hK98] at hm
    have a99 := a92.n l97
    refine cn hm (fun hm => ?_) fun hm => ?_
    ·exact sr (Nb rfl (.ret (rt hm a99)))
    ·exact sk (rg (mi rfl (Lw.add rfl (Ni rfl ((agm) ⟨y87, w64 (y88 + 1), W97, rfl, (l89.j l97).w, rfl, hm⟩)))))
   ·refine Cw.draw [] [(0, 0), (1, 1), (2, 0), (3, 0), (4, 0), (5, 1), (6, 2), (7, 0), (8, 0), (9, 0), (10, 1), (11, 0), (12, 0), (13, 0), (14, 1), (15, 0), (16, 1), (17, 0), (18, 0), (19, 2), (20, 0), (21, 0), (22, 0), (23, 0), (24, 0), (25, 0), (26, 0), (27, 1), (28, 0), (29, 0), (30, 0), (31, 1), (32, 0), (33, 1), (34, 0), (35, 0), (36, 0), (37, 0), (38, 1), (39, 0), (40, 0), (41, 0)] mixed (by kernel_rfl) fun W102 l102 => ?_
    have a103 := a92.n l102
    have b104 := b93.up l102
    refine Dfl b104 rfl rfl rfl (Di rfl ?_)
    obtain ⟨u105, e106, hm⟩ := ob hm
    have s107 := h0_1.ul a103
    refine Mw.p rfl rfl (fun _ => R.ix (α := Head) s107 e106 rfl rfl rfl) (Df rfl (Mw.q rfl rfl (fun _ c => R.ld rfl rfl (cl_cell (Head.at0 (s107.at_ e106)).1 rfl (Head.at0 (s107.at_ e106)).str c)) ?_))
    obtain ⟨z108, e109, hm⟩ := ob hm
    refine Mw.t rfl rfl (T.call rfl (p138   e109)) ?_
    rintro _ _ ⟨W110, rfl, l110, rfl⟩
    have a111 := a103.n l110
    refine m0 l110 fun d110 => Mw.p rfl rfl (fun _ => R.not rfl) (Db rfl (bs hm (fun hc113 hm => ?_) fun hc113 hm => ?_))
    ·exact dps 12 hc113 rfl (Mw.p rfl rfl (fun _ => R.pk hc113 rfl (v := vB true) rfl) (Db rfl (dps 3 rfl rfl (dpu 14 rfl (dps 1 rfl rfl (Mw.p rfl rfl (fun _ => R.pk rfl rfl (v := vB true) rfl) (Mw.nil ((ag) ⟨true, W110, rfl, (l102.j l110).w, rfl, hm⟩))))))))
    ·refine Wp hc113 rfl (fun _ => R.fa rfl) (Wq hc113 rfl (fun _ c => R.ld (v := v0_1_) rfl rfl (b104.clc rfl rfl c)) (Wp hc113 rfl (fun _ => R.mv (v := vI y88) rfl) ?_))
     obtain ⟨u114, e115, hm⟩ := ob hm
     refine Wp hc113 rfl (fun _ => R.ix (α := Head) s107 e115 rfl rfl rfl) (Wp hc113 rfl (fun _ => R.fa rfl) (Wq hc113 rfl (fun _ c => R.ld rfl rfl (cl_cell (Head.at1 (s107.at_ e115)).1 rfl (Head.at1 (s107.at_ e115)).int c)) (Wp hc113 rfl (fun _ => R.fa rfl) (Wq hc113 rfl (fun _ c => R.ld (v := v0_0_) rfl rfl (b104.clc rfl rfl c)) (Wp hc113 rfl (fun _ => lenR (xs := x0.Commits) (h0_0.ul a111) rfl) (Wp hc113 rfl (fun _ => R.sub rfl rfl) ?_))))))
     obtain ⟨z117, e118, hm⟩ := ob hm
     refine Wt hc113 rfl (T.call rfl (p84   e118)) ?_
     rintro _ _ ⟨W119, rfl, l119, rfl⟩
     refine mc d110 l119 fun d119 => Wp hc113 rfl (fun _ => R.not rfl) (Mw.p rfl rfl (fun _ => R.pk hc113 rfl (v := vB (!z117)) rfl) (Db rfl (bs hm (fun hc122 hm => ?_) fun hc122 hm => ?_)))
     ·exact dps 3 hc122 rfl (dpu 14 rfl (dps 1 hc122 rfl (Mw.p rfl rfl (fun _ => R.pk hc122 rfl (v := vB true) rfl) (Mw.nil ((ag) ⟨true, W119, rfl, ((l102.j l110).j l119).w, rfl, hm⟩)))))
     ·refine Wp hc122 rfl (fun _ => R.mv (v := vI y88) rfl) (Wp hc122 rfl (fun _ => R.gt rfl rfl) (Wp hc122 rfl (fun _ => R.mv (v := vB (decide ((0 : Int) < (y88 : Int)))) rfl) (bs hm (fun hc123 hm => ?_) fun hc123 hm => ?_)))
      ·refine Wp hc123 rfl (fun _ => R.fa rfl) (Wq hc123 rfl (fun _ c => R.ld (v := v0_1_) rfl rfl (b104.clc rfl rfl c)) (Wp hc123 rfl (fun _ => R.mv (v := vI y88) rfl) ?_))
       obtain ⟨u124, e125, hm⟩ := ob hm
       refine Wp hc123 rfl (fun _ => R.ix (α := Head) s107 e125 rfl rfl rfl) (Wp hc123 rfl (fun _ => R.fa rfl) (Wq hc123 rfl (fun _ c => R.ld rfl rfl (cl_cell (Head.at0 (s107.at_ e125)).1 rfl (Head.at0 (s107.at_ e125)).str c)) (Wp hc123 rfl (fun _ => R.fa rfl) (Wq hc123 rfl (fun _ c => R.ld (v := v0_1_) rfl rfl (b104.clc rfl rfl c)) (Wp hc123 rfl (fun _ => R.mv (v := vI y88) rfl) (Wp hc123 rfl (fun _ => R.sub rfl rfl) ?_))))))
       obtain ⟨u126, e127, hm⟩ := ob hm
       exact Wp hc123 rfl (fun _ => R.ix (α := Head) s107 e127 rfl rfl rfl) (Wp hc123 rfl (fun _ => R.fa rfl) (Wq hc123 rfl (fun _ c => R.ld rfl rfl (cl_cell (Head.at0 (s107.at_ e127)).1 rfl (Head.at0 (s107.at_ e127)).str c)) (Wp hc123 rfl (fun _ => R.sle rfl rfl) (Wp hc122 rfl (fun _ => R.pk hc123 rfl (v := vB (Op.bytesLess u124.Name u126.Name || u124.Name == u126.Name)) rfl) (Mw.p rfl rfl (fun _ => R.pk hc122 rfl (v := vB (Op.bytesLess u124.Name u126.Name || u124.Name == u126.Name)) rfl) (Mw.nil ((ag) ⟨(Op.bytesLess u124.Name u126.Name || u124.Name == u126.Name), W119, rfl, ((l102.j l110).j l119).w, rfl, hm⟩)))))))
      ·exact dps 14 hc123 rfl (Wp hc122 rfl (fun _ => R.pk hc123 rfl (v := vB false) rfl) (Mw.p rfl rfl (fun _ => R.pk hc122 rfl (v := vB false) rfl) (Mw.nil ((ag) ⟨false, W119, rfl, ((l102.j l110).j l119).w, rfl, hm⟩))))
  ·refine Cw.exit ?_
   rw [hK90] at hm
   obtain ⟨K130, hK130, hm⟩ := jn_e hm
   refine Cw.join 116 125 [2] (fun l w => ∃ y128 W129, CW.w W129 = w ∧ Le [] W89 W129 ∧ l = [vB y128] ∧ K130 y128 = some r) ?_ ?_
   ·rintro _ _ σ ⟨y128, W129, rfl, l129, rfl, hm⟩
    rw [hK130] at hm
    have a131 := a92.n l129
    exact .ret (rt hm a131)
   ·refine rg (fl b93 rfl (Lw.ln x0.Commits (h0_0.ul a92) rfl (Lw.le rfl (mb rfl (bs hm (fun hc134 hm => ?_) fun hc134 hm => ?_)))))
    ·exact wak 4 hc134 (fl b93 rfl (Lw.ln x0.Heads (h0_1.ul a92) rfl (Lw.le rfl (Pb hc134 rfl (Nb rfl ((ag) ⟨decide (((x0.Heads.length : Int) : Int) ≤ (5 : Int)), W89, rfl, Le.refl _ _, rfl, hm⟩))))))
    ·exact psk 4 hc134 rfl (Pb hc134 rfl (Nb rfl ((ag) ⟨false, W89, rfl, Le.refl _ _, rfl, hm⟩)))
theorem p74 {x0 v0_0_ v0_1_ r} (h0 : Rd W K [v0_0_, v0_1_] x0) (hm : Vm.spec_l7Ok x0 = some r) : Q1 74 [.agg [v0_0_, v0_1_].toArray] W [] fun W' v => v = vB r :=
 (c74 (h0.view _) hm).ad (fk 0) fun _ _ e => e
theorem c119 {x0 v0_0_ v0_2_ r} (h0 : Rd W0 [0] [v0_0_, vS x0.Who, v0_2_] x0) (hm : Vm.spec_l7CopyCommit x0 = some r) : Q0 119 [.agg [v0_0_, vS x0.Who, v0_2_].toArray] W0 fun Wf v => ∃ u0_0 u0_2, v = .agg [u0_0, vS r.Who, u0_2].toArray ∧ OwS Wf [31] [] [u0_0] r.Parents ∧ OwS Wf [32] [] [u0_2] r.Tree := by
 unfold Vm.spec_l7CopyCommit at hm
 obtain ⟨w0_0, w0_1, he0, h0_0, h0_2⟩ := Commit.split h0
 simp only [List.cons.injEq, and_true, true_and] at he0
 obtain ⟨rfl, rfl⟩ := he0
 refine CallR.of Tryz.func119 rfl rfl rfl rfl (sr (bo 2 rfl fun g1 W1 l1 b1 => ?_))
 have a2 := l1.o
 refine al 3 [.slice none 0 0, vS ([] : Str), .slice none 0 0] fun g3 W3 l3 b3 => ?_
 have a4 := a2.n l3
 refine nl (Cw.seq (Cw.draw [4] [(1, 0), (2, 1), (4, 0), (5, 1), (6, 0), (7, 1), (0, 2), (3, 2), (8, 2), (9, 0), (10, 3)] mixed (by kernel_rfl) fun W6 l6 => ?_))
 have a7 := a4.n l6
 have b8 := (b1.up l3).up l6
 refine Dfl b8 rfl rfl rfl (Dfl b8 rfl rfl rfl (Dfl b8 rfl rfl rfl (Mw.t rfl rfl (T.lit0 (α := Int) 4 []) ?_)))
 rintro v10 _ ⟨W10, rfl, l10, o10⟩
 have a11 := a7.n l10
 refine m0 l10 fun d10 => ?_
 obtain ⟨q14, e15, hm⟩ := ob hm
 refine Mw.t rfl rfl (T.appP (α := Int) o10 (h0_0.ul a11) rfl rfl e15) ?_
 rintro v16 _ ⟨W16, rfl, l16, o16⟩
 have a18 := a11.t l16
 refine mc d10 l16 fun d16 => ?_
 obtain ⟨z22, e23, hm⟩ := ob hm
 refine Mw.t rfl rfl (T.call rfl (p133 (k0 := 5) (h0_2.ul a18) e23)) ?_
 rintro v0_24 _ ⟨W24, rfl, l24, ⟨_, rfl, f24_0⟩⟩
 have a25 := a18.n l24
 have o26 := o16.up l24
 refine mc d16 l24 fun d24 => Mw.p rfl rfl (fun _ => R.bd (zs := [.slice none 0 0, vS ([] : Str), .slice none 0 0]) (cs := [v16, vS x0.Who, v0_24]) [(0, v16), (1, vS x0.Who), (2, v0_24)] rfl rfl rfl (bp_cons o26.oc rfl (bp_cons rfl rfl (bp_cons f24_0.oc rfl bp_nil)))) (Mw.lu rfl (T.sta (vs := [v16, vS x0.Who, v0_24]) ((((b3.up l6).up l10).up l16).up l24) rfl rfl (oc_cons o26.oc (oc_cons rfl (oc_cons f24_0.oc oc_nil))) rfl rfl) ?_)
 rintro _ _ ⟨W29, rfl, l29, b29⟩
 have a30 := a25.t l29
 refine Mw.nil ?_
 obtain ⟨W34, ew34, l34, o34⟩ := (o26.up l29).dyeO 31
 have a35 := a30.t l34
 obtain ⟨W39, ew39, l39, o39⟩ := ((f24_0.up l29).up l34).dyeO 32
 have a40 := a35.t l39
 cases hm
 rw [← ew39.trans (ew34)]
 exact Cw.ret (retA1 rfl ((b29.up l34).up l39) (Res.mk a40 ⟨v16, v0_24, rfl, (o34.up l39).s, o39.s⟩))
theorem p119 {x0 v0_0_ v0_2_ k0 k1 r} (h0 : Rd W K [v0_0_, vS x0.Who, v0_2_] x0) (hm : Vm.spec_l7CopyCommit x0 = some r) : Q1 119 [.agg [v0_0_, vS x0.Who, v0_2_].toArray] W [] fun W' v => ∃ u0_0 u0_2, v = .agg [u0_0, vS r.Who, u0_2].toArray ∧ Ow W' k0 [] [u0_0] r.Parents ∧ Ow W' k1 [] [u0_2] r.Tree :=
 CallR.adJ (J := []) (fun c => bif Nat.beq c 0 then 0 else bif Nat.beq c 31 then k0 else bif Nat.beq c 32 then k1 else 0) (c119 (h0.view _) hm) fun _ _ ⟨u0_0, u0_2, e, f0, f1⟩ => ⟨u0_0, u0_2, e, f0.one1.backN rfl, f1.one1.backN rfl⟩
theorem c75 {x0 v0_0_ v0_1_ r} (h0 : Rd W0 [0] [v0_0_, v0_1_] x0) (hm : Vm.spec_l7Copy x0 = some r) : Q0 75 [.agg [v0_0_, v0_1_].toArray] W0 fun Wf v => ∃ u0_0 u0_1, v = .agg [u0_0, u0_1].toArray ∧ OwS Wf [31] [] [u0_0] r.Commits ∧ OwS Wf [32] [] [u0_1] r.Heads := by
 unfold Vm.spec_l7Copy at hm
 obtain ⟨w0_0, w0_1, he0, h0_0, h0_1⟩ := Repo.split h0
 simp only [List.cons.injEq, and_true, true_and] at he0
 obtain ⟨rfl, rfl⟩ := he0
 refine CallR.of Tryz.func75 rfl rfl rfl rfl (sr (bo 2 rfl fun g1 W1 l1 b1 => ?_))
 have a2 := l1.o
 refine al 3 [.slice none 0 0, .slice none 0 0] fun g3 W3 l3 b3 => ?_
 have a4 := a2.n l3
 refine nl (sr (Lw.t rfl (T.lit0 (α := Head) 4 []) ?_))
 rintro v6 _ ⟨W6, rfl, l6, o6⟩
 have a7 := a4.n l6
 have b8 := (b1.up l3).up l6
 refine fl b8 rfl ?_
 obtain ⟨q10, e11, hm⟩ := ob hm
 refine Lw.t rfl (T.appP (α := Head) o6 (h0_1.ul a7) rfl rfl e11) ?_
 rintro v12 _ ⟨W12, rfl, l12, o12⟩
 have a14 := a7.t l12
 refine Lw.r rfl (R.bd (zs := [.slice none 0 0, .slice none 0 0]) (cs := [.slice none 0 0, v12]) [(1, v12)] rfl rfl rfl (bp_cons o12.oc rfl bp_nil)) (al 5 [.slice none 0 0, .slice none 0 0] fun g17 W17 l17 b17 => ?_)
 have a18 := a14.n l17
 refine sta b17 (oc_cons rfl (oc_cons (o12.up l17).oc oc_nil)) fun W22 l22 b22 => ?_
 have a23 := a18.t l22
 refine nl (ssr (Ni rfl (Cw.block ?_)))
 obtain ⟨K36, hK36, hm⟩ := jn_e hm
 refine Cw.loop 10 27 [4] (fun m l w => ∃ y27 y28 y31 v29 v32 W35, CW.w W35 = w ∧ Le [5, 6, 7, 8] W22 W35 ∧ l = [vI y27] ∧ Ow W35 6 [] [v29] y28 ∧ Ow W35 4 [] [v32] y31 ∧ Bx W35 5 g17 [v29, v32] ∧ Vm.spec_l7Copy_l1 x0 K36 m y27 y28 y31 = some r) _ ⟨0, ([] : List Commit), q10, .slice none 0 0, v12, W22, rfl, Le.refl _ _, rfl, owN 6 [], ((o12.up l17).up l22), b22, hm⟩ ?_
 rintro (_ | m37) _ _ σ ⟨y27, y28, y31, v29, v32, W35, rfl, l35, rfl, o30, o33, b34, hm⟩
 ·cases hm
 unfold Vm.spec_l7Copy_l1 at hm
 have a38 := a23.t l35
 have b39 := (((b8.up l12).up l17).up l22).up l35
 refine ssr (mi rfl (fl b39 rfl (Lw.ln x0.Commits (h0_0.ul a38) rfl (Lw.lt rfl (nl (cn hm (fun hm => ?_) fun hm => ?_))))))
 ·refine sk (Cw.seq (Cw.block (Cw.draw [6, 7, 8] [(0, 0), (1, 1), (2, 0), (3, 1), (4, 0), (5, 0), (6, 1), (7, 2), (8, 2), (9, 2), (10, 0), (11, 3)] mixed (by kernel_rfl) fun W43 l43 => ?_)))
  have a44 := a38.n l43
  refine Dfl (b34.up l43) rfl rfl rfl (Dfl (b39.up l43) rfl rfl rfl (Di rfl ?_))
  obtain ⟨u50, e51, hm⟩ := ob hm
  have s52 := h0_0.ul a44
  refine Mw.p rfl rfl (fun _ => R.ix (α := Commit) s52 e51 rfl rfl rfl) ?_
  obtain ⟨x53, c54, _, r55⟩ := (s52.at_ e51).cells
  obtain ⟨v56, v58, rfl, r57, r59⟩ := Commit.split r55
  refine Mw.q rfl rfl (fun _ c => R.lda (cl_cells (s52.at_ e51).1 rfl c54 c) rfl rfl) (Dc hm (Le.refl _ _) (fun _ => p119 (k0 := 7) (k1 := 8) (Commit.rd (K := [0]) u50.Parents u50.Who u50.Tree r57 r59)) rfl ?_)
  rintro z60 _ W62 hm l62 ⟨v0_0_62, v0_2_62, rfl, f62_0, f62_1⟩ d62
  refine Mw.t rfl rfl (T.bs 9 [.agg [v0_0_62, vS z60.Who, v0_2_62].toArray] (cs := [v0_0_62, vS z60.Who, v0_2_62]) rfl rfl (bsA rfl)) ?_
  rintro _ _ ⟨g69, W69, rfl, rfl, l69, b69⟩
  refine mc d62 l69 fun d69 => ?_
  obtain ⟨q78, e79, hm⟩ := ob hm
  refine Mw.t rfl rfl (T.app1 (α := Commit) (J := [7, 8]) (K' := []) (((o30.up l43).up l62).up l69) b69 (Commit.own z60.Parents z60.Who z60.Tree (f62_0.up l69).s (f62_1.up l69).s) rfl rfl e79) ?_
  rintro v80 _ ⟨W80, rfl, l80, o80⟩
  refine mc d69 l80 fun d80 => Df rfl (Mw.lu rfl (T.st (j := 0) (v := v80) ((((b34.up l43).up l62).up l69).up l80) rfl rfl o80.oc rfl rfl) ?_)
  rintro _ _ ⟨W87, rfl, l87, b87⟩
  exact Mw.nil (rg (mi rfl (Lw.add rfl (Ni rfl ((agm) ⟨w64 (y27 + 1), q78, y31, v80, v32, W87, rfl, (((((l35.j l43).j l62).j l69).j l80).j l87).w, rfl, (o80.up l87), (((((o33.up l43).up l62).up l69).up l80).up l87), b87, hm⟩)))))
 ·refine Cw.exit ?_
  rw [hK36] at hm
  refine sr (la b34 (sta (((((b3.up l6).up l12).up l17).up l22).up l35) (oc_cons o30.oc (oc_cons o33.oc oc_nil)) fun W94 l94 b94 => ?_))
  have a95 := a38.t l94
  refine nl ?_
  obtain ⟨W100, ew100, l100, o100⟩ := (o30.up l94).dyeO 31
  have a101 := a95.t l100
  obtain ⟨W106, ew106, l106, o106⟩ := ((o33.up l94).up l100).dyeO 32
  have a107 := a101.t l106
  cases hm
  rw [← ew106.trans (ew100)]
  exact Cw.ret (retA1 rfl ((b94.up l100).up l106) (Res.mk a107 ⟨v29, v32, rfl, (o100.up l106).s, o106.s⟩))
theorem p75 {x0 v0_0_ v0_1_ k0 k1 r} (h0 : Rd W K [v0_0_, v0_1_] x0) (hm : Vm.spec_l7Copy x0 = some r) : Q1 75 [.agg [v0_0_, v0_1_].toArray] W [] fun W' v => ∃ u0_0 u0_1, v = .agg [u0_0, u0_1].toArray ∧ Ow W' k0 [] [u0_0] r.Commits ∧ Ow W' k1 [] [u0_1] r.Heads :=
 CallR.adJ (J := []) (fun c => bif Nat.beq c 0 then 0 else bif Nat.beq c 31 then k0 else bif Nat.beq c 32 then k1 else 0) (c75 (h0.view _) hm) fun _ _ ⟨u0_0, u0_1, e, f0, f1⟩ => ⟨u0_0, u0_1, e, f0.one1.backN rfl, f1.one1.backN rfl⟩
end Go.Sx
