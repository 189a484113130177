/- Walks: each function answers as its model, printed by a program of ours. Conditions: the arguments read as they are given. -/
import Derived.Test.YtidkloialdageaaGreatDoorCTs
import Derived.Test.YtidkloialdageaaGreatDoorCM4
import Derived.Test.YtidkloialdageaaGreatDoorCW10
import Derived.Test.YtidkloialdageaaGreatDoorCW6
import Derived.Test.YtidkloialdageaaGreatDoorCW7
import Derived.Test.YtidkloialdageaaGreatDoorCW8
import Derived.Test.YtidkloialdageaaGreatDoorCW9
namespace Go.Sx
open Go Go.Proofs Go.Vm Rp
set_option linter.unusedVariables false
set_option linter.unusedSimpArgs false
variable {W W0 : CW} {K : List Nat}
theorem c30 {x0 v0_ x1 v1_ r} (h0 : Rd W0 [0] [v0_] x0) (h1 : Rd W0 [0] [v1_] x1) (hm : Vm.impl_DiffMatch x0 x1 = some r) : Q0 30 [v0_, v1_] W0 fun Wf v => ∃ u0, v = u0 ∧ OwS Wf LL [] [u0] r := by
 unfold Vm.impl_DiffMatch at hm
 refine CallR.of Tryz.func30 rfl rfl rfl rfl (sr (Nv (.slice none 0 0) rfl (Cw.seq ?_)))
 obtain ⟨K3, hK3, hm⟩ := jn_e hm
 refine Cw.join 5 12 [12] (fun l w => ∃ y1 W2, CW.w W2 = w ∧ Le [] W0 W2 ∧ l = [vB y1] ∧ K3 y1 = some r) ?_ ?_
 ·rintro _ _ σ ⟨y1, W2, rfl, l2, rfl, hm⟩
  rw [hK3] at hm
  have a4 := l2.o
  refine cn hm (fun hm => ?_) fun hm => ?_
  ·refine sr (Nv (.slice none 0 0) rfl ?_)
   cases hm
   exact Cw.ret (ret1 rfl (Res.mk a4 ⟨.slice none 0 0, rfl, (owsN []).sub rfl rfl⟩))
  ·refine sk (sr (mv v0_ rfl (mv v1_ rfl (cr hm (fun _ => p93 (k0 := 2) (h0.ul a4) (h1.ul a4)) ?_))))
   rintro z8 v0_10 W10 hm l10 ⟨_, rfl, f10_0⟩
   have a11 := a4.n l10
   refine Nv v0_10 rfl ?_
   cases hm
   exact Cw.ret (ret1 rfl (Res.mk a11 ⟨v0_10, rfl, f10_0.s.sub rfl rfl⟩))
 ·refine rg (mv v0_ rfl (ca hm (fun _ => p92 h0) fun z12 W14 hm l14 => ?_))
  have a15 := l14.o
  refine Lw.r rfl (R.not rfl) (mb rfl (bs hm (fun hc16 hm => ?_) fun hc16 hm => ?_))
  ·exact psk 3 hc16 rfl (Pb hc16 rfl (nl ((ag) ⟨true, W14, rfl, l14, rfl, hm⟩)))
  ·exact wak 3 hc16 (mv v1_ rfl (ca hm (fun _ => p92 (h1.ul a15)) fun z18 W20 hm l20 => Lw.r rfl (R.not rfl) (Pb hc16 rfl (nl ((ag) ⟨(!z18), W20, rfl, (l14.j l20).w, rfl, hm⟩)))))
theorem p30 {x0 v0_ x1 v1_ k0 r} (h0 : Rd W K [v0_] x0) (h1 : Rd W K [v1_] x1) (hm : Vm.impl_DiffMatch x0 x1 = some r) : Q1 30 [v0_, v1_] W [] fun W' v => ∃ u0, v = u0 ∧ Ow W' k0 [] [u0] r :=
 (c30 (h0.view _) (h1.view _) hm).ad (fk k0) fun _ _ ⟨u0, e, f0⟩ => ⟨u0, e, f0.back (fk_LL _)⟩
theorem c4 {x0 v0_ r} (h0 : Rd W0 [0] [v0_] x0) (h99 : Gl 0 W0 [0]) (hm : Vm.laws_FnBlameOf x0 = some r) : Q0 4 [v0_] W0 fun Wf v => v = vB r := by
 unfold Vm.laws_FnBlameOf at hm
 refine CallR.of Tryz.func4 rfl rfl rfl rfl (sr (Nb rfl (ssr (mv v0_ rfl (Lw.ln x0 h0 rfl (Lw.gt rfl (nl (cn hm (fun hm => ?_) fun hm => ?_))))))))
 ·exact sr (Nb rfl (.ret (rt hm (Le.refl _ _))))
 ·refine sk (sr (mv v0_ rfl (cr hm (fun _ => p22 (k0 := 2) (k1 := 3) h0) ?_)))
  rintro z2 _ W4 hm l4 ⟨v0_0_4, v0_1_4, rfl, f4_0, f4_1⟩
  have a5 := l4.o
  refine mv (.tuple [.agg [v0_0_4, v0_1_4].toArray, vI z2.2.1, vS z2.2.2].toArray) rfl (Lw.r rfl (R.ext (vs := [.agg [v0_0_4, v0_1_4].toArray, vI z2.2.1, vS z2.2.2]) (v := .agg [v0_0_4, v0_1_4].toArray) rfl rfl) (Lw.r rfl (R.ext (vs := [.agg [v0_0_4, v0_1_4].toArray, vI z2.2.1, vS z2.2.2]) (v := vI z2.2.1) rfl rfl) (Lw.r rfl (R.ext (vs := [.agg [v0_0_4, v0_1_4].toArray, vI z2.2.1, vS z2.2.2]) (v := vS z2.2.2) rfl rfl) (al 4 [.slice none 0 0, .slice none 0 0] fun g6 W6 l6 b6 => ?_))))
  have a7 := a5.n l6
  refine sta b6 (oc_cons (f4_0.up l6).oc (oc_cons (f4_1.up l6).oc oc_nil)) fun W10 l10 b10 => ?_
  have a11 := a7.t l10
  have o12 := (f4_0.up l6).up l10
  have o13 := (f4_1.up l6).up l10
  refine Gi rfl (Ns rfl (sr (la b10 (mi rfl (ms rfl (cr hm (fun _ => p23 (K := [0, 2, 3]) (k0 := 5) (x0 := (Vm.Repo.mk z2.1.Commits z2.1.Heads)) ((Repo.rd (K := [2, 3]) z2.1.Commits z2.1.Heads (o12.rd.sub (M := [2, 3]) rfl) (o13.rd.sub (M := [2, 3]) rfl)).sub (M := [0, 2, 3]) rfl) ((h99.ul a11).sub (M := [0, 2, 3]) rfl)) ?_))))))
  rintro z15 v0_17 W17 hm l17 ⟨_, rfl, f17_0⟩
  have a18 := a11.n l17
  refine Nv v0_17 rfl (Cw.seq ?_)
  obtain ⟨K24, hK24, hm⟩ := jn_e hm
  refine Cw.join 30 41 [41] (fun l w => ∃ y22 W23, CW.w W23 = w ∧ Le [] W17 W23 ∧ l = [vB y22] ∧ K24 y22 = some r) ?_ ?_
  ·rintro _ _ σ ⟨y22, W23, rfl, l23, rfl, hm⟩
   rw [hK24] at hm
   have a25 := a18.n l23
   have o26 := (o12.up l17).up l23
   have o27 := (o13.up l17).up l23
   have b29 := (b10.up l17).up l23
   refine cn hm (fun hm => ?_) fun hm => ?_
   ·refine sr (mv v0_17 rfl (la b29 (mi rfl (ms rfl (cr hm (fun _ => p25 (K := [2, 3]) (k0 := 6) (x0 := (Vm.Repo.mk z2.1.Commits z2.1.Heads)) (Repo.rd (K := [2, 3]) z2.1.Commits z2.1.Heads (o26.rd.sub (M := [2, 3]) rfl) (o27.rd.sub (M := [2, 3]) rfl))) ?_)))))
    rintro z31 v0_33 W33 hm l33 ⟨_, rfl, f33_0⟩
    have a34 := a25.n l33
    refine ca hm (fun _ => p24 (K := [5, 6]) (((f17_0.up l23).up l33).rd.sub (M := [5, 6]) rfl) (f33_0.rd.sub (M := [5, 6]) rfl)) fun z39 W41 hm l41 => ?_
    have a42 := a34.n l41
    exact Nb rfl (.ret (rt hm a42))
   ·refine sk (sr (fl b29 rfl (mi rfl ?_)))
    obtain ⟨u48, e49, hm⟩ := ob hm
    refine Lw.r rfl (R.ix (α := Commit) o26.rd e49 rfl rfl rfl) (Lw.fa rfl ?_)
    obtain ⟨v50, c51, r52⟩ := (Commit.at2 (o26.rd.at_ e49)).cell rfl
    refine Lw.r rfl (R.ld rfl rfl c51) (ms rfl (cr hm (fun _ => p26 (K := [0, 2]) (k0 := 7) (r52.sub (M := [0, 2]) rfl) ((h99.ul a25).sub (M := [0, 2]) rfl)) ?_))
    rintro z54 _ W56 hm l56 ⟨v0_56, rfl, f56_0⟩
    have a57 := a25.n l56
    refine mv (.tuple [v0_56, vB z54.2].toArray) rfl (Lw.r rfl (R.ext (vs := [v0_56, vB z54.2]) (v := v0_56) rfl rfl) (Lw.r rfl (R.ext (vs := [v0_56, vB z54.2]) (v := vB z54.2) rfl rfl) (Gv v0_56 rfl (Nb rfl (sr (la (b29.up l56) (mi rfl (cr hm (fun _ => p27 (K := [0, 2, 3]) (k0 := 8) (x0 := (Vm.Repo.mk z2.1.Commits z2.1.Heads)) ((Repo.rd (K := [2, 3]) z2.1.Commits z2.1.Heads ((o26.up l56).rd.sub (M := [2, 3]) rfl) ((o27.up l56).rd.sub (M := [2, 3]) rfl)).sub (M := [0, 2, 3]) rfl) ((h99.ul a57).sub (M := [0, 2, 3]) rfl)) ?_))))))))
    rintro z63 v0_65 W65 hm l65 ⟨_, rfl, f65_0⟩
    have a66 := a57.n l65
    refine Nv v0_65 rfl (ssr (Ni rfl (Cw.block ?_)))
    obtain ⟨K77, hK77, hm⟩ := jn_e hm
    refine Cw.loop 62 101 [2, 10, 11, 12] (fun m l w => ∃ y72 y73 j74 j75 W76, CW.w W76 = w ∧ Le [] W65 W76 ∧ l = [vB y72, vI y73, j74, j75] ∧ Vm.laws_FnBlameOf_l1 z2 z15 z54 z63 K77 m y72 y73 = some r) _ ⟨false, 0, undef, undef, W65, rfl, Le.refl _ _, rfl, hm⟩ ?_
    rintro (_ | m78) _ _ σ ⟨y72, y73, j74, j75, W76, rfl, l76, rfl, hm⟩
    ·cases hm
    unfold Vm.laws_FnBlameOf_l1 at hm
    have a79 := a66.n l76
    have o80 := ((o26.up l56).up l65).up l76
    have o82 := (((f17_0.up l23).up l56).up l65).up l76
    have o83 := (f56_0.up l65).up l76
    have o84 := f65_0.up l76
    have b85 := ((b29.up l56).up l65).up l76
    refine ssr (mi rfl (mv v0_17 rfl (Lw.ln z15 o82.rd rfl (Lw.lt rfl (nl (cn hm (fun hm => ?_) fun hm => ?_))))))
    ·refine sk (Cw.seq (Cw.block (Cw.seq (Cw.draw [] [(0, 0), (1, 1), (2, 0), (3, 0), (4, 0), (5, 1), (6, 0), (7, 0), (8, 1), (9, 0), (10, 2), (11, 0), (12, 0), (13, 0), (14, 0), (15, 0)] mixed (by kernel_rfl) fun W87 l87 => ?_))))
     have a88 := a79.n l87
     have o89 := o80.up l87
     have o91 := o82.up l87
     refine Dfl (b85.up l87) rfl rfl rfl (Dv v0_17 rfl (Di rfl ?_))
     obtain ⟨u95, e96, hm⟩ := ob hm
     refine Mw.p rfl rfl (fun _ => R.ix (α := Int) o91.rd e96 rfl rfl rfl) (Mw.q rfl rfl (fun _ c => R.ld rfl rfl (cl_cell (o91.rd.at_ e96).1 rfl (o91.rd.at_ e96).int c)) ?_)
     obtain ⟨u97, e98, hm⟩ := ob hm
     refine Mw.p rfl rfl (fun _ => R.ix (α := Commit) o89.rd e98 rfl rfl rfl) (Df rfl ?_)
     obtain ⟨v99, c100, r101⟩ := (Commit.at2 (o89.rd.at_ e98)).cell rfl
     refine Mw.q rfl rfl (fun _ c => R.ld rfl rfl (cl_cell (Commit.at2 (o89.rd.at_ e98)).1 rfl c100 c)) (Ds rfl ?_)
     obtain ⟨z103, e104, hm⟩ := ob hm
     refine Mw.t rfl rfl (T.call rfl (p26 (K := [0, 2]) (k0 := 9) (r101.sub (M := [0, 2]) rfl) ((h99.ul a88).sub (M := [0, 2]) rfl) e104)) ?_
     rintro _ _ ⟨W105, rfl, l105, ⟨v0_105, rfl, f105_0⟩⟩
     have a106 := a88.n l105
     refine m0 l105 fun d105 => Dv (.tuple [v0_105, vB z103.2].toArray) rfl (Mw.p rfl rfl (fun _ => R.ext (vs := [v0_105, vB z103.2]) (v := v0_105) rfl rfl) (Mw.p rfl rfl (fun _ => R.ext (vs := [v0_105, vB z103.2]) (v := vB z103.2) rfl rfl) (Hv v0_105 rfl (Hb rfl (Mw.nil ?_)))))
     obtain ⟨K115, hK115, hm⟩ := jn_e hm
     refine Cw.join 82 101 [101] (fun l w => ∃ y113 W114, CW.w W114 = w ∧ Le [] W105 W114 ∧ l = [vB y113] ∧ K115 y113 = some r) ?_ ?_
     ·rintro _ _ σ ⟨y113, W114, rfl, l114, rfl, hm⟩
      rw [hK115] at hm
      have a116 := a106.n l114
      refine cn hm (fun hm => ?_) fun hm => ?_
      ·exact sr (Nb rfl (.ret (rt hm a116)))
      ·exact sk (rg (mi rfl (Lw.add rfl (Ni rfl ((agm) ⟨y72, w64 (y73 + 1), v0_105, vB z103.2, W114, rfl, (((l76.j l87).j l105).j l114).w, rfl, hm⟩)))))
     ·refine rg (mv v0_65 rfl (mv v0_17 rfl (mi rfl ?_)))
      obtain ⟨u125, e126, hm⟩ := ob hm
      refine Lw.r rfl (R.ix (α := Int) (o91.up l105).rd e126 rfl rfl rfl) (Lw.r rfl (R.ld rfl rfl ((o91.up l105).rd.at_ e126).int) (ca hm (fun _ => p28 (K := [8]) ((o84.up l87).up l105).rd) fun z127 W129 hm l129 => ?_))
      have o134 := ((o83.up l87).up l105).up l129
      refine Lw.r rfl (R.not rfl) (mb rfl (bs hm (fun hc138 hm => ?_) fun hc138 hm => ?_))
      ·exact psk 2 hc138 rfl (Pb hc138 rfl (mb rfl (psk 7 rfl rfl (Pb rfl rfl (nl ((ag) ⟨true, W129, rfl, l129, rfl, hm⟩))))))
      ·refine wak 2 hc138 (mb rfl (Lw.r rfl (R.not rfl) (Pb hc138 rfl (mb rfl (bs hm (fun hc139 hm => ?_) fun hc139 hm => ?_)))))
       ·exact psk 7 hc139 rfl (Pb hc139 rfl (nl ((ag) ⟨true, W129, rfl, l129, rfl, hm⟩)))
       ·refine wak 7 hc139 (mv v0_105 rfl (mv v0_56 rfl (mi rfl ?_)))
        obtain ⟨u140, e141, hm⟩ := ob hm
        exact Lw.r rfl (R.ix (α := Str) o134.rd e141 rfl rfl rfl) (Lw.r rfl (R.ld rfl rfl (o134.rd.at_ e141).str) (ca hm (fun _ => p29 (K := [9]) (f105_0.up l129).rd) fun z142 W144 hm l144 => Lw.r rfl (R.not rfl) (Pb hc139 rfl (nl ((ag) ⟨(!z142), W144, rfl, (l129.j l144).w, rfl, hm⟩)))))
    ·refine Cw.exit ?_
     rw [hK77] at hm
     refine ssr (mv v0_65 rfl (Lw.ln z63 o84.rd rfl (Lw.lt rfl (nl (cn hm (fun hm => ?_) fun hm => ?_)))))
     ·obtain ⟨K156, hK156, hm⟩ := jn_e hm
      refine Cw.join 105 119 [2] (fun l w => ∃ y154 W155, CW.w W155 = w ∧ Le [] W76 W155 ∧ l = [vB y154] ∧ K156 y154 = some r) ?_ ?_
      ·rintro _ _ σ ⟨y154, W155, rfl, l155, rfl, hm⟩
       rw [hK156] at hm
       have a157 := a79.n l155
       exact .ret (rt hm a157)
      ·refine rg (mb rfl (mb rfl (bs hm (fun hc164 hm => ?_) fun hc164 hm => ?_)))
       ·refine wak 5 hc164 (mv v0_17 rfl (Lw.ln z15 o82.rd rfl (mv v0_56 rfl (Lw.ln z54.1 o83.rd rfl (Lw.eq rfl (Pb hc164 rfl (mb rfl (bs hm (fun hc165 hm => ?_) fun hc165 hm => ?_))))))))
        ·refine wak 5 hc165 (mv v0_17 rfl ?_)
         obtain ⟨u166, e167, hm⟩ := ob hm
         exact Lw.r rfl (R.ix (α := Int) o82.rd e167 rfl rfl rfl) (Lw.r rfl (R.ld rfl rfl (o82.rd.at_ e167).int) (mi rfl (Lw.eq rfl (Pb hc165 rfl (Nb rfl ((ag) ⟨((u166 : Int) == (z2.2.1 : Int)), W76, rfl, Le.refl _ _, rfl, hm⟩))))))
        ·exact psk 5 hc165 rfl (Pb hc165 rfl (Nb rfl ((ag) ⟨false, W76, rfl, Le.refl _ _, rfl, hm⟩)))
       ·exact psk 5 hc164 rfl (Pb hc164 rfl (mb rfl (psk 5 rfl rfl (Pb rfl rfl (Nb rfl ((ag) ⟨false, W76, rfl, Le.refl _ _, rfl, hm⟩))))))
     ·refine sk (Cw.seq (Cw.draw [] [(0, 0), (1, 1), (2, 0), (3, 0), (4, 1), (5, 0), (6, 0), (7, 1), (8, 0), (9, 2), (10, 0), (11, 0), (12, 0), (13, 0), (14, 0)] mixed (by kernel_rfl) fun W168 l168 => ?_))
      have a169 := a79.n l168
      have o170 := o80.up l168
      have o174 := o84.up l168
      refine Dfl (b85.up l168) rfl rfl rfl (Dv v0_65 rfl ?_)
      obtain ⟨u176, e177, hm⟩ := ob hm
      refine Mw.p rfl rfl (fun _ => R.ix (α := Int) o174.rd e177 rfl rfl rfl) (Mw.q rfl rfl (fun _ c => R.ld rfl rfl (cl_cell (o174.rd.at_ e177).1 rfl (o174.rd.at_ e177).int c)) ?_)
      obtain ⟨u178, e179, hm⟩ := ob hm
      refine Mw.p rfl rfl (fun _ => R.ix (α := Commit) o170.rd e179 rfl rfl rfl) (Df rfl ?_)
      obtain ⟨v180, c181, r182⟩ := (Commit.at2 (o170.rd.at_ e179)).cell rfl
      refine Mw.q rfl rfl (fun _ c => R.ld rfl rfl (cl_cell (Commit.at2 (o170.rd.at_ e179)).1 rfl c181 c)) (Ds rfl ?_)
      obtain ⟨z184, e185, hm⟩ := ob hm
      refine Mw.t rfl rfl (T.call rfl (p26 (K := [0, 2]) (k0 := 10) (r182.sub (M := [0, 2]) rfl) ((h99.ul a169).sub (M := [0, 2]) rfl) e185)) ?_
      rintro _ _ ⟨W186, rfl, l186, ⟨v0_186, rfl, f186_0⟩⟩
      have a187 := a169.n l186
      have o191 := (o83.up l168).up l186
      refine m0 l186 fun d186 => Dv (.tuple [v0_186, vB z184.2].toArray) rfl (Mw.p rfl rfl (fun _ => R.ext (vs := [v0_186, vB z184.2]) (v := v0_186) rfl rfl) (Mw.p rfl rfl (fun _ => R.ext (vs := [v0_186, vB z184.2]) (v := vB z184.2) rfl rfl) (Hv v0_186 rfl (Hb rfl (Mw.nil (sr (mv v0_186 rfl (mv v0_56 rfl (cr hm (fun _ => p30 (K := [7, 10]) (k0 := 11) (f186_0.rd.sub (M := [7, 10]) rfl) (o191.rd.sub (M := [7, 10]) rfl)) ?_)))))))))
      rintro z194 v0_196 W196 hm l196 ⟨_, rfl, f196_0⟩
      have a197 := a187.n l196
      refine Nv v0_196 rfl (ssr (Ni rfl (Cw.block ?_)))
      obtain ⟨K208, hK208, hm⟩ := jn_e hm
      refine Cw.loop 136 151 [2, 16] (fun m l w => ∃ y205 y206 W207, CW.w W207 = w ∧ Le [] W196 W207 ∧ l = [vB y205, vI y206] ∧ Vm.laws_FnBlameOf_l2 z2 z15 z194 K208 m y205 y206 = some r) _ ⟨y72, 0, W196, rfl, Le.refl _ _, rfl, hm⟩ ?_
      rintro (_ | m209) _ _ σ ⟨y205, y206, W207, rfl, l207, rfl, hm⟩
      ·cases hm
      unfold Vm.laws_FnBlameOf_l2 at hm
      have a210 := a197.n l207
      have o213 := (((o82.up l168).up l186).up l196).up l207
      refine ssr (mi rfl (mv v0_17 rfl (Lw.ln z15 o213.rd rfl (Lw.lt rfl (nl (cn hm (fun hm => ?_) fun hm => ?_))))))
      ·refine sk (Cw.seq (Cw.block (Cw.seq (Cw.draw [] [(0, 0), (1, 0), (2, 0), (3, 1), (4, 0), (5, 0), (6, 0), (7, 0), (8, 2), (9, 0)] mixed (by kernel_rfl) fun W220 l220 => ?_))))
       have a221 := a210.n l220
       have o224 := o213.up l220
       refine Dv v0_17 rfl (Di rfl ?_)
       obtain ⟨u230, e231, hm⟩ := ob hm
       refine Mw.p rfl rfl (fun _ => R.ix (α := Int) o224.rd e231 rfl rfl rfl) (Mw.q rfl rfl (fun _ c => R.ld rfl rfl (cl_cell (o224.rd.at_ e231).1 rfl (o224.rd.at_ e231).int c)) (Di rfl (Mw.p rfl rfl (fun _ => R.eq rfl rfl) (Dv v0_196 rfl (Di rfl ?_)))))
       obtain ⟨z232, e233, hm⟩ := ob hm
       refine Mw.t rfl rfl (T.call rfl (p28 (K := [11])  ((f196_0.up l207).up l220).rd e233)) ?_
       rintro _ _ ⟨W234, rfl, l234, rfl⟩
       have a235 := a221.n l234
       refine m0 l234 fun d234 => Mw.p rfl rfl (fun _ => R.beq rfl rfl) (Mw.nil (cn hm (fun hm => ?_) fun hm => ?_))
       ·exact sr (Nb rfl (.ret (rt hm a235)))
       ·exact sk (rg (mi rfl (Lw.add rfl (Ni rfl ((agm) ⟨y205, w64 (y206 + 1), W234, rfl, ((l207.j l220).j l234).w, rfl, hm⟩)))))
      ·refine Cw.exit ?_
       rw [hK208] at hm
       obtain ⟨K247, hK247, hm⟩ := jn_e hm
       refine Cw.join 152 159 [2] (fun l w => ∃ y245 W246, CW.w W246 = w ∧ Le [] W207 W246 ∧ l = [vB y245] ∧ K247 y245 = some r) ?_ ?_
       ·rintro _ _ σ ⟨y245, W246, rfl, l246, rfl, hm⟩
        rw [hK247] at hm
        have a248 := a210.n l246
        exact .ret (rt hm a248)
       ·refine rg (mb rfl (mb rfl (bs hm (fun hc257 hm => ?_) fun hc257 hm => ?_)))
        ·exact wak 5 hc257 (mv v0_17 rfl (Lw.ln z15 o213.rd rfl (mv v0_56 rfl (Lw.ln z54.1 ((o191.up l196).up l207).rd rfl (Lw.eq rfl (Pb hc257 rfl (Nb rfl ((ag) ⟨(((z15.length : Int) : Int) == ((z54.1.length : Int) : Int)), W207, rfl, Le.refl _ _, rfl, hm⟩))))))))
        ·exact psk 5 hc257 rfl (Pb hc257 rfl (Nb rfl ((ag) ⟨false, W207, rfl, Le.refl _ _, rfl, hm⟩)))
  ·refine rg (mv v0_17 rfl (la (b10.up l17) (mi rfl (ms rfl (cr hm (fun _ => p25 (K := [2, 3]) (k0 := 12) (x0 := (Vm.Repo.mk z2.1.Commits z2.1.Heads)) (Repo.rd (K := [2, 3]) z2.1.Commits z2.1.Heads ((o12.up l17).rd.sub (M := [2, 3]) rfl) ((o13.up l17).rd.sub (M := [2, 3]) rfl))) ?_)))))
   rintro z258 v0_260 W260 hm l260 ⟨_, rfl, f260_0⟩
   refine ca hm (fun _ => p24 (K := [5, 12]) ((f17_0.up l260).rd.sub (M := [5, 12]) rfl) (f260_0.rd.sub (M := [5, 12]) rfl)) fun z266 W268 hm l268 => Lw.r rfl (R.not rfl) (mb rfl (bs hm (fun hc275 hm => ?_) fun hc275 hm => ?_))
   ·exact psk 3 hc275 rfl (Pb hc275 rfl (nl ((ag) ⟨true, W268, rfl, (l260.j l268).w, rfl, hm⟩)))
   ·exact wak 3 hc275 (mv v0_17 rfl (Lw.ln z15 ((f17_0.up l260).up l268).rd rfl (Lw.eq rfl (Pb hc275 rfl (nl ((ag) ⟨(((z15.length : Int) : Int) == (0 : Int)), W268, rfl, (l260.j l268).w, rfl, hm⟩))))))
theorem p4 {x0 v0_ r} (h0 : Rd W K [v0_] x0) (h99 : Gl 0 W K) (hm : Vm.laws_FnBlameOf x0 = some r) : Q1 4 [v0_] W [] fun W' v => v = vB r :=
 (c4 (h0.view _) (h99.view _) hm).ad (fk 0) fun _ _ e => e
end Go.Sx
