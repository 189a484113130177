/- Walks: each function answers as its model, printed by a program of ours. Conditions: the arguments read as they are given. -/
import Derived.Test.YtidkloialdageaaGreatDoorXTs
import Derived.Test.YtidkloialdageaaGreatDoorXM7
import Derived.Test.YtidkloialdageaaGreatDoorXW10
import Derived.Test.YtidkloialdageaaGreatDoorXW13
import Derived.Test.YtidkloialdageaaGreatDoorXW6
namespace Go.Sx
open Go Go.Proofs Go.Vm Rp
set_option linter.unusedVariables false
set_option linter.unusedSimpArgs false

variable {W W0 : CW} {K : List Nat}
theorem c6 {x0 v0_ r} (h0 : Rd W0 [0] [v0_] x0) (h99 : Gl 0 W0 [0]) (hm : Vm.laws_FnLogPath x0 = some r) : Q0 6 [v0_] W0 fun Wf v => v = vB r := by
 unfold Vm.laws_FnLogPath at hm
 refine CallR.of Tryz.func6 rfl rfl rfl rfl (sr (Nb rfl (ssr (mv v0_ rfl (Lw.ln x0 h0 rfl (Lw.gt rfl (nl (cn hm (fun hm => ?_) fun hm => ?_))))))))
 ·exact sr (Nb rfl (.ret (rt hm (Le.refl _ _))))
 ·refine sk (sr (mv v0_ rfl (cr hm (fun _ => p37 (k0 := 2) (k1 := 3) h0) ?_)))
  rintro z2 _ W4 hm l4 ⟨v0_0_4, v0_1_4, rfl, f4_0, f4_1⟩
  have a5 := l4.o
  refine mv (.tuple [.agg [v0_0_4, v0_1_4].toArray, vI z2.2.1, vS z2.2.2].toArray) rfl (Lw.r rfl (R.ext (vs := [.agg [v0_0_4, v0_1_4].toArray, vI z2.2.1, vS z2.2.2]) (v := .agg [v0_0_4, v0_1_4].toArray) rfl rfl) (Lw.r rfl (R.ext (vs := [.agg [v0_0_4, v0_1_4].toArray, vI z2.2.1, vS z2.2.2]) (v := vI z2.2.1) rfl rfl) (Lw.r rfl (R.ext (vs := [.agg [v0_0_4, v0_1_4].toArray, vI z2.2.1, vS z2.2.2]) (v := vS z2.2.2) rfl rfl) (al 4 [.slice none 0 0, .slice none 0 0] fun g6 W6 l6 b6 => ?_))))
  have a7 := a5.n l6
  refine sta b6 (oc_cons (f4_0.up l6).oc (oc_cons (f4_1.up l6).oc oc_nil)) fun W10 l10 b10 => ?_
  have a11 := a7.t l10
  have o12 := (f4_0.up l6).up l10
  have o13 := (f4_1.up l6).up l10
  refine Gi rfl (Ns rfl (sr (la b10 (mi rfl (ms rfl (cr hm (fun _ => p38 (K := [0, 2, 3]) (k0 := 5) (x0 := (Vm.Repo.mk z2.1.Commits z2.1.Heads)) ((Repo.rd (K := [2, 3]) z2.1.Commits z2.1.Heads (o12.rd.sub (M := [2, 3]) rfl) (o13.rd.sub (M := [2, 3]) rfl)).sub (M := [0, 2, 3]) rfl) ((h99.ul a11).sub (M := [0, 2, 3]) rfl)) ?_))))))
  rintro z15 v0_17 W17 hm l17 ⟨_, rfl, f17_0⟩
  have a18 := a11.n l17
  have o19 := o12.up l17
  have o20 := o13.up l17
  have b21 := b10.up l17
  refine Nv v0_17 rfl (Cw.seq ?_)
  obtain ⟨K24, hK24, hm⟩ := jn_e hm
  refine Cw.join 27 49 [49] (fun l w => ∃ y22 W23, CW.w W23 = w ∧ Le [] W17 W23 ∧ l = [vB y22] ∧ K24 y22 = some r) ?_ ?_
  ·rintro _ _ σ ⟨y22, W23, rfl, l23, rfl, hm⟩
   rw [hK24] at hm
   have a25 := a18.n l23
   have o26 := o19.up l23
   have b29 := b21.up l23
   refine cn hm (fun hm => ?_) fun hm => ?_
   ·refine sr (mv v0_17 rfl (la b29 (mi rfl (ms rfl (cr hm (fun _ => p39 (K := [2, 3]) (k0 := 6) (x0 := (Vm.Repo.mk z2.1.Commits z2.1.Heads)) (Repo.rd (K := [2, 3]) z2.1.Commits z2.1.Heads (o26.rd.sub (M := [2, 3]) rfl) ((o20.up l23).rd.sub (M := [2, 3]) rfl))) ?_)))))
    rintro z31 v0_33 W33 hm l33 ⟨_, rfl, f33_0⟩
    have a34 := a25.n l33
    refine ca hm (fun _ => p24 (K := [5, 6]) (((f17_0.up l23).up l33).rd.sub (M := [5, 6]) rfl) (f33_0.rd.sub (M := [5, 6]) rfl)) fun z39 W41 hm l41 => ?_
    have a42 := a34.n l41
    exact Nb rfl (.ret (rt hm a42))
   ·refine sk (sr (la b29 (mi rfl (cr hm (fun _ => p40 (K := [0, 2, 3]) (k0 := 7) (x0 := (Vm.Repo.mk z2.1.Commits z2.1.Heads)) ((Repo.rd (K := [2, 3]) z2.1.Commits z2.1.Heads (o26.rd.sub (M := [2, 3]) rfl) ((o20.up l23).rd.sub (M := [2, 3]) rfl)).sub (M := [0, 2, 3]) rfl) ((h99.ul a25).sub (M := [0, 2, 3]) rfl)) ?_))))
    rintro z49 v0_51 W51 hm l51 ⟨_, rfl, f51_0⟩
    have a52 := a25.n l51
    refine Nv v0_51 rfl (ssr (Ni rfl (Cw.block ?_)))
    obtain ⟨K64, hK64, hm⟩ := jn_e hm
    refine Cw.loop 59 118 [2, 8, 9, 10, 11, 12] (fun m l w => ∃ y57 y58 j59 j60 j61 j62 W63, CW.w W63 = w ∧ Le [8] W51 W63 ∧ l = [vB y57, vI y58, j59, j60, j61, j62] ∧ Vm.laws_FnLogPath_l1 z2 z15 z49 K64 m y57 y58 = some r) _ ⟨false, 0, undef, undef, undef, undef, W51, rfl, Le.refl _ _, rfl, hm⟩ ?_
    rintro (_ | m65) _ _ σ ⟨y57, y58, j59, j60, j61, j62, W63, rfl, l63, rfl, hm⟩
    ·cases hm
    unfold Vm.laws_FnLogPath_l1 at hm
    have a66 := a52.t l63
    have o69 := ((f17_0.up l23).up l51).up l63
    have o70 := f51_0.up l63
    refine ssr (mi rfl (mv v0_51 rfl (Lw.ln z49 o70.rd rfl (Lw.lt rfl (nl (cn hm (fun hm => ?_) fun hm => ?_))))))
    ·refine sk (Cw.seq (Cw.block (Cw.seq (Cw.draw [] [(0, 0), (1, 1), (2, 0), (3, 0), (4, 0), (5, 1), (6, 0), (7, 1), (8, 2), (9, 3)] mixed (by kernel_rfl) fun W73 l73 => ?_))))
     have a74 := a66.n l73
     have o75 := ((o26.up l51).up l63).up l73
     have o78 := o70.up l73
     have b79 := ((b29.up l51).up l63).up l73
     refine Dfl b79 rfl rfl rfl (Dv v0_51 rfl (Di rfl ?_))
     obtain ⟨u80, e81, hm⟩ := ob hm
     refine Mw.p rfl rfl (fun _ => R.ix (α := Int) o78.rd e81 rfl rfl rfl) (Mw.q rfl rfl (fun _ c => R.ld rfl rfl (cl_cell (o78.rd.at_ e81).1 rfl (o78.rd.at_ e81).int c)) ?_)
     obtain ⟨u82, e83, hm⟩ := ob hm
     refine Mw.p rfl rfl (fun _ => R.ix (α := Commit) o75.rd e83 rfl rfl rfl) ?_
     obtain ⟨x84, c85, _, r86⟩ := (o75.rd.at_ e83).cells
     obtain ⟨v87, v89, rfl, r88, r90⟩ := Commit.split r86
     refine Mw.q rfl rfl (fun _ c => R.lda (cl_cells (o75.rd.at_ e83).1 rfl c85 c) rfl rfl) (Mw.t rfl rfl (T.alloc 8 (cs := [.slice none 0 0, vS ([] : Str), .slice none 0 0]) rfl) ?_)
     rintro _ _ ⟨g91, W91, rfl, rfl, l91, b91⟩
     have a92 := a74.n l91
     refine m0 l91 fun d91 => Mw.lu rfl (T.sta (vs := [v87, vS u82.Who, v89]) b91 rfl rfl (oc_cons r88.oc (oc_cons rfl (oc_cons r90.oc oc_nil))) rfl rfl) ?_
     rintro _ _ ⟨W98, rfl, l98, b98⟩
     have a99 := a92.t l98
     refine Mw.nil (sr (fl b98 rfl (ms rfl ?_)))
     have s105 := r90.up ((l91.sub (M := [8]) rfl).trans (l98.sub (M := [8]) rfl)) rfl
     refine cr hm (fun _ => p41 (K := [0, 2]) (k0 := 9) (s105.sub (M := [0, 2]) rfl) ((h99.ul a99).sub (M := [0, 2]) rfl)) ?_
     rintro z107 v0_109 W109 hm l109 ⟨_, rfl, f109_0⟩
     have o110 : Ow (α := List (Sh Vm.File)) W109 9 [0, 2] [v0_109] z107 := f109_0.sub rfl
     have a111 := a99.n l109
     refine Nv v0_109 rfl ?_
     obtain ⟨K120, hK120, hm⟩ := jn_e hm
     refine Cw.join 77 85 [11] (fun l w => ∃ y118 W119, CW.w W119 = w ∧ Le [] W109 W119 ∧ l = [vB y118] ∧ K120 y118 = some r) ?_ ?_
     ·rintro _ _ σ ⟨y118, W119, rfl, l119, rfl, hm⟩
      rw [hK120] at hm
      have a121 := a111.n l119
      refine ssr (Ni rfl (Cw.block ?_))
      obtain ⟨K132, hK132, hm⟩ := jn_e hm
      refine Cw.loop 86 110 [11, 12] (fun m l w => ∃ y129 y130 W131, CW.w W131 = w ∧ Le [] W119 W131 ∧ l = [vB y129, vI y130] ∧ Vm.laws_FnLogPath_l2 z2 u82 z107 K132 m y129 y130 = some r) _ ⟨y118, 0, W119, rfl, Le.refl _ _, rfl, hm⟩ ?_
      rintro (_ | m133) _ _ σ ⟨y129, y130, W131, rfl, l131, rfl, hm⟩
      ·cases hm
      unfold Vm.laws_FnLogPath_l2 at hm
      have a134 := a121.n l131
      have o138 := ((((o78.up l91).up l98).up l109).up l119).up l131
      have b141 := ((b98.up l109).up l119).up l131
      refine ssr ?_
      have s142 := r88.up ((l91.sub (M := [8]) rfl).trans ((l98.sub (M := [8]) rfl).trans ((l109.sub (M := [8]) rfl).trans ((l119.sub (M := [8]) rfl).trans (l131.sub (M := [8]) rfl))))) rfl
      refine mi rfl (fl b141 rfl (Lw.ln u82.Parents s142 rfl (Lw.lt rfl (nl (cn hm (fun hm => ?_) fun hm => ?_)))))
      ·refine sk (Cw.seq (Cw.block (Cw.draw [] [(0, 0), (1, 0), (2, 0), (3, 1), (4, 0), (5, 1), (6, 0), (7, 0), (8, 1), (9, 0), (10, 0), (11, 1), (12, 0), (14, 0), (13, 2), (15, 2), (16, 0), (17, 0), (18, 0)] mixed (by kernel_rfl) fun W144 l144 => ?_)))
       have a145 := a134.n l144
       have o146 := (((((o75.up l91).up l98).up l109).up l119).up l131).up l144
       refine Db rfl (Db rfl (bs hm (fun hc153 hm => ?_) fun hc153 hm => ?_))
       ·refine Wp hc153 rfl (fun _ => R.fa rfl) (Wq hc153 rfl (fun _ c => R.ld (v := v0_0_4) rfl rfl (((((((b79.up l91).up l98).up l109).up l119).up l131).up l144).clc rfl rfl c)) (Wp hc153 rfl (fun _ => R.fa rfl) (Wq hc153 rfl (fun _ c => R.ld (v := v87) rfl rfl ((b141.up l144).clc rfl rfl c)) (Wp hc153 rfl (fun _ => R.mv (v := vI y130) rfl) ?_))))
        obtain ⟨u154, e155, hm⟩ := ob hm
        have s156 := r88.up ((l91.sub (M := [8]) rfl).trans ((l98.sub (M := [8]) rfl).trans ((l109.sub (M := [8]) rfl).trans ((l119.sub (M := [8]) rfl).trans ((l131.sub (M := [8]) rfl).trans (l144.sub (M := [8]) rfl)))))) rfl
        refine Wp hc153 rfl (fun _ => R.ix (α := Int) s156 e155 rfl rfl rfl) (Wq hc153 rfl (fun _ c => R.ld rfl rfl (cl_cell (s156.at_ e155).1 rfl (s156.at_ e155).int c)) ?_)
        obtain ⟨u157, e158, hm⟩ := ob hm
        refine Wp hc153 rfl (fun _ => R.ix (α := Commit) o146.rd e158 rfl rfl rfl) (Wp hc153 rfl (fun _ => R.fa rfl) ?_)
        obtain ⟨v159, c160, r161⟩ := (Commit.at2 (o146.rd.at_ e158)).cell rfl
        refine Wq hc153 rfl (fun _ c => R.ld rfl rfl (cl_cell (Commit.at2 (o146.rd.at_ e158)).1 rfl c160 c)) (Wp hc153 rfl (fun _ => R.mv (v := vS z2.2.2) rfl) (Wp hc153 rfl (fun _ => R.mv (v := v0_109) rfl) ?_))
        obtain ⟨z163, e164, hm⟩ := ob hm
        refine Wt hc153 rfl (T.call rfl (p41 (K := [0, 2]) (k0 := 10) (r161.sub (M := [0, 2]) rfl) ((h99.ul a145).sub (M := [0, 2]) rfl) e164)) ?_
        rintro v0_165 _ ⟨W165, rfl, l165, ⟨_, rfl, f165_0⟩⟩
        have o166 : Ow (α := List (Sh Vm.File)) W165 10 [0, 2] [v0_165] z163 := f165_0.sub rfl
        refine m0 l165 fun d165 => ?_
        have s175 : Rd (α := List Vm.File) W165 [10, 0, 2] [v0_165] z163 := Ow.rdSh o166
        have s176 : Rd (α := List Vm.File) W165 [9, 0, 2] [v0_109] z107 := Ow.rdSh ((((o110.up l119).up l131).up l144).up l165)
        obtain ⟨z177, e178, hm⟩ := ob hm
        refine Wt hc153 rfl (T.call rfl (p42 (K := [0, 2, 9, 10])  (s175.sub (M := [0, 2, 9, 10]) rfl) (s176.sub (M := [0, 2, 9, 10]) rfl) e178)) ?_
        rintro _ _ ⟨W179, rfl, l179, rfl⟩
        exact mc d165 l179 fun d179 => Wp hc153 rfl (fun _ => R.not rfl) (Mw.p rfl rfl (fun _ => R.pk hc153 rfl (v := vB (!z177)) rfl) (Hb rfl (Mw.nil (rg (mi rfl (Lw.add rfl (Ni rfl ((agm) ⟨(!z177), w64 (y130 + 1), W179, rfl, (((l131.j l144).j l165).j l179).w, rfl, hm⟩))))))))
       ·exact dps 15 hc153 rfl (Mw.p rfl rfl (fun _ => R.pk hc153 rfl (v := vB false) rfl) (Hb rfl (Mw.nil (rg (mi rfl (Lw.add rfl (Ni rfl ((agm) ⟨false, w64 (y130 + 1), W144, rfl, (l131.j l144).w, rfl, hm⟩))))))))
      ·refine Cw.exit ?_
       rw [hK132] at hm
       refine sr (mb rfl (mv v0_17 rfl (mv v0_51 rfl (mi rfl ?_))))
       obtain ⟨u189, e190, hm⟩ := ob hm
       refine Lw.r rfl (R.ix (α := Int) o138.rd e190 rfl rfl rfl) (Lw.r rfl (R.ld rfl rfl (o138.rd.at_ e190).int) (ca hm (fun _ => p28 (K := [5]) ((((((o69.up l73).up l91).up l98).up l109).up l119).up l131).rd) fun z191 W193 hm l193 => ?_))
       have a194 := a134.n l193
       refine Lw.r rfl (R.bne rfl rfl) (nl (cn hm (fun hm => ?_) fun hm => ?_))
       ·exact sr (Nb rfl (.ret (rt hm a194)))
       ·exact sk (rg (mi rfl (Lw.add rfl (Ni rfl ((agm) ⟨y57, w64 (y58 + 1), ptr (bx g91), v0_109, vB y129, vI y130, W193, rfl, (((((((l63.j l73).j l91).j l98).j l109).j l119).j l131).j l193).w, rfl, hm⟩)))))
     ·refine rg ?_
      have s203 := r88.up ((l91.sub (M := [8]) rfl).trans ((l98.sub (M := [8]) rfl).trans (l109.sub (M := [8]) rfl))) rfl
      refine fl (b98.up l109) rfl (Lw.ln u82.Parents s203 rfl (Lw.gt rfl (mb rfl (bs hm (fun hc204 hm => ?_) fun hc204 hm => ?_))))
      ·exact psk 3 hc204 rfl (Pb hc204 rfl (Nb rfl ((ag) ⟨true, W109, rfl, Le.refl _ _, rfl, hm⟩)))
      ·refine wak 3 hc204 (mv v0_109 rfl ?_)
       have s205 : Rd (α := List Vm.File) W109 [9, 0, 2] [v0_109] z107 := Ow.rdSh o110
       exact Lw.ln z107 s205 rfl (Lw.gt rfl (Pb hc204 rfl (Nb rfl ((ag) ⟨decide ((0 : Int) < ((z107.length : Int) : Int)), W109, rfl, Le.refl _ _, rfl, hm⟩))))
    ·refine Cw.exit ?_
     rw [hK64] at hm
     refine ssr (Ni rfl (Cw.block ?_))
     obtain ⟨K209, hK209, hm⟩ := jn_e hm
     refine Cw.loop 119 147 [2, 13] (fun m l w => ∃ y206 y207 W208, CW.w W208 = w ∧ Le [] W63 W208 ∧ l = [vB y206, vI y207] ∧ Vm.laws_FnLogPath_l3 z15 z49 K209 m y206 y207 = some r) _ ⟨y57, 0, W63, rfl, Le.refl _ _, rfl, hm⟩ ?_
     rintro (_ | m210) _ _ σ ⟨y206, y207, W208, rfl, l208, rfl, hm⟩
     ·cases hm
     unfold Vm.laws_FnLogPath_l3 at hm
     have a211 := a66.n l208
     refine ssr (mi rfl (mv v0_17 rfl (Lw.ln z15 (o69.up l208).rd rfl (Lw.lt rfl (nl (cn hm (fun hm => ?_) fun hm => ?_))))))
     ·refine sk (Cw.seq (Cw.block ?_))
      obtain ⟨K220, hK220, hm⟩ := jn_e hm
      refine Cw.join 125 147 [147] (fun l w => ∃ y218 W219, CW.w W219 = w ∧ Le [] W208 W219 ∧ l = [vB y218] ∧ K220 y218 = some r) ?_ ?_
      ·rintro _ _ σ ⟨y218, W219, rfl, l219, rfl, hm⟩
       rw [hK220] at hm
       have a221 := a211.n l219
       refine cn hm (fun hm => ?_) fun hm => ?_
       ·exact sr (Nb rfl (.ret (rt hm a221)))
       ·exact sk (rg (mi rfl (Lw.add rfl (Ni rfl ((agm) ⟨y206, w64 (y207 + 1), W219, rfl, (l208.j l219).w, rfl, hm⟩)))))
      ·refine Cw.draw [] [(0, 0), (1, 0), (2, 0), (3, 0), (4, 0), (5, 0), (6, 1), (7, 0), (8, 0), (9, 0), (10, 0), (11, 1), (12, 0), (13, 0), (14, 0), (15, 0), (16, 0), (17, 0), (18, 0), (19, 1), (20, 2), (21, 0), (22, 0)] mixed (by kernel_rfl) fun W228 l228 => ?_
       have o232 := (o69.up l208).up l228
       have o233 := (o70.up l208).up l228
       refine Di rfl (Mw.p rfl rfl (fun _ => R.gt rfl rfl) (Db rfl (bs hm (fun hc235 hm => ?_) fun hc235 hm => ?_)))
       ·refine Wp hc235 rfl (fun _ => R.mv (v := v0_17) rfl) (Wp hc235 rfl (fun _ => R.mv (v := vI y207) rfl) ?_)
        obtain ⟨u236, e237, hm⟩ := ob hm
        refine Wp hc235 rfl (fun _ => R.ix (α := Int) o232.rd e237 rfl rfl rfl) (Wq hc235 rfl (fun _ c => R.ld rfl rfl (cl_cell (o232.rd.at_ e237).1 rfl (o232.rd.at_ e237).int c)) (Wp hc235 rfl (fun _ => R.mv (v := v0_17) rfl) (Wp hc235 rfl (fun _ => R.mv (v := vI y207) rfl) (Wp hc235 rfl (fun _ => R.sub rfl rfl) ?_))))
        obtain ⟨u238, e239, hm⟩ := ob hm
        refine Wp hc235 rfl (fun _ => R.ix (α := Int) o232.rd e239 rfl rfl rfl) (Wq hc235 rfl (fun _ c => R.ld rfl rfl (cl_cell (o232.rd.at_ e239).1 rfl (o232.rd.at_ e239).int c)) (Wp hc235 rfl (fun _ => R.ge rfl rfl) (Mw.p rfl rfl (fun _ => R.pk hc235 rfl (v := vB (decide ((u238 : Int) ≤ (u236 : Int)))) rfl) (Db rfl (bs hm (fun hc240 hm => ?_) fun hc240 hm => ?_)))))
        ·exact dps 7 hc240 rfl (Mw.p rfl rfl (fun _ => R.pk hc240 rfl (v := vB true) rfl) (Mw.nil ((ag) ⟨true, W228, rfl, l228, rfl, hm⟩)))
        ·refine Wp hc240 rfl (fun _ => R.mv (v := v0_51) rfl) (Wp hc240 rfl (fun _ => R.mv (v := v0_17) rfl) (Wp hc240 rfl (fun _ => R.mv (v := vI y207) rfl) ?_))
         obtain ⟨u241, e242, hm⟩ := ob hm
         refine Wp hc240 rfl (fun _ => R.ix (α := Int) o232.rd e242 rfl rfl rfl) (Wq hc240 rfl (fun _ c => R.ld rfl rfl (cl_cell (o232.rd.at_ e242).1 rfl (o232.rd.at_ e242).int c)) ?_)
         obtain ⟨z243, e244, hm⟩ := ob hm
         refine Wt hc240 rfl (T.call rfl (p28 (K := [7])  o233.rd e244)) ?_
         rintro _ _ ⟨W245, rfl, l245, rfl⟩
         exact m0 l245 fun d245 => Wp hc240 rfl (fun _ => R.not rfl) (Mw.p rfl rfl (fun _ => R.pk hc240 rfl (v := vB (!z243)) rfl) (Mw.nil ((ag) ⟨(!z243), W245, rfl, (l228.j l245).w, rfl, hm⟩)))
       ·refine dps 10 hc235 rfl (Mw.p rfl rfl (fun _ => R.pk hc235 rfl (v := vB false) rfl) (Db rfl (Wp rfl rfl (fun _ => R.mv (v := v0_51) rfl) (Wp rfl rfl (fun _ => R.mv (v := v0_17) rfl) (Wp rfl rfl (fun _ => R.mv (v := vI y207) rfl) ?_)))))
        obtain ⟨u252, e253, hm⟩ := ob hm
        refine Wp rfl rfl (fun _ => R.ix (α := Int) o232.rd e253 rfl rfl rfl) (Wq rfl rfl (fun _ c => R.ld rfl rfl (cl_cell (o232.rd.at_ e253).1 rfl (o232.rd.at_ e253).int c)) ?_)
        obtain ⟨z254, e255, hm⟩ := ob hm
        refine Wt rfl rfl (T.call rfl (p28 (K := [7])  o233.rd e255)) ?_
        rintro _ _ ⟨W256, rfl, l256, rfl⟩
        exact m0 l256 fun d256 => Wp rfl rfl (fun _ => R.not rfl) (Mw.p rfl rfl (fun _ => R.pk rfl rfl (v := vB (!z254)) rfl) (Mw.nil ((ag) ⟨(!z254), W256, rfl, (l228.j l256).w, rfl, hm⟩)))
     ·refine Cw.exit ?_
      rw [hK209] at hm
      exact sr (Nb rfl (.ret (rt hm a211)))
  ·refine rg (mv v0_17 rfl (la b21 (mi rfl (ms rfl (cr hm (fun _ => p39 (K := [2, 3]) (k0 := 11) (x0 := (Vm.Repo.mk z2.1.Commits z2.1.Heads)) (Repo.rd (K := [2, 3]) z2.1.Commits z2.1.Heads (o19.rd.sub (M := [2, 3]) rfl) (o20.rd.sub (M := [2, 3]) rfl))) ?_)))))
   rintro z263 v0_265 W265 hm l265 ⟨_, rfl, f265_0⟩
   have a266 := a18.n l265
   refine ca hm (fun _ => p24 (K := [5, 11]) ((f17_0.up l265).rd.sub (M := [5, 11]) rfl) (f265_0.rd.sub (M := [5, 11]) rfl)) fun z271 W273 hm l273 => ?_
   have a274 := a266.n l273
   have o275 := (o19.up l265).up l273
   have b279 := (b21.up l265).up l273
   refine Lw.r rfl (R.not rfl) (mb rfl (bs hm (fun hc280 hm => ?_) fun hc280 hm => ?_))
   ·exact psk 3 hc280 rfl (Pb hc280 rfl (mb rfl (psk 2 rfl rfl (Pb rfl rfl (mb rfl (psk 5 rfl rfl (Pb rfl rfl (nl ((ag) ⟨true, W273, rfl, (l265.j l273).w, rfl, hm⟩)))))))))
   ·refine wak 3 hc280 (la b279 (ca hm (fun _ => p19 (K := [0, 2, 3]) (x0 := (Vm.Repo.mk z2.1.Commits z2.1.Heads)) ((Repo.rd (K := [2, 3]) z2.1.Commits z2.1.Heads (o275.rd.sub (M := [2, 3]) rfl) (((o20.up l265).up l273).rd.sub (M := [2, 3]) rfl)).sub (M := [0, 2, 3]) rfl) ((h99.ul a274).sub (M := [0, 2, 3]) rfl)) fun z282 W284 hm l284 => Lw.r rfl (R.not rfl) (Pb hc280 rfl (mb rfl (bs hm (fun hc291 hm => ?_) fun hc291 hm => ?_)))))
    ·exact psk 2 hc291 rfl (Pb hc291 rfl (mb rfl (psk 5 rfl rfl (Pb rfl rfl (nl ((ag) ⟨true, W284, rfl, ((l265.j l273).j l284).w, rfl, hm⟩))))))
    ·refine wak 2 hc291 (mi rfl (Lw.lt rfl (Pb hc291 rfl (mb rfl (bs hm (fun hc292 hm => ?_) fun hc292 hm => ?_)))))
     ·exact psk 5 hc292 rfl (Pb hc292 rfl (nl ((ag) ⟨true, W284, rfl, ((l265.j l273).j l284).w, rfl, hm⟩)))
     ·exact wak 5 hc292 (mi rfl (fl (b279.up l284) rfl (Lw.ln z2.1.Commits (o275.up l284).rd rfl (Lw.ge rfl (Pb hc292 rfl (nl ((ag) ⟨decide (((z2.1.Commits.length : Int) : Int) ≤ (z2.2.1 : Int)), W284, rfl, ((l265.j l273).j l284).w, rfl, hm⟩)))))))

theorem p6 {x0 v0_ r} (h0 : Rd W K [v0_] x0) (h99 : Gl 0 W K) (hm : Vm.laws_FnLogPath x0 = some r) : Q1 6 [v0_] W [] fun W' v => v = vB r :=
 (c6 (h0.view _) (h99.view _) hm).ad (fk 0) fun _ _ e => e

end Go.Sx
