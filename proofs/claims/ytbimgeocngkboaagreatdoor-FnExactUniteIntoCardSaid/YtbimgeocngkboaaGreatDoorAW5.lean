/- Walks: each function answers as its model, printed by a program of ours. Conditions: the arguments read as they are given. -/
import Derived.Test.YtbimgeocngkboaaGreatDoorATs
import Derived.Test.YtbimgeocngkboaaGreatDoorAM0
import Derived.Test.YtbimgeocngkboaaGreatDoorAW3
import Derived.Test.YtbimgeocngkboaaGreatDoorAW4
namespace Go.Sx
open Go Go.Proofs Go.Vm Rp
set_option linter.unusedVariables false
set_option linter.unusedSimpArgs false
variable {W W0 : CW} {K : List Nat}
theorem c161 {x0 b x1 d x2 e r} (z : Rd W0 [0] [b] x0) (X : Rd W0 [0] [d] x1) (Y : Rd W0 [0] [e] x2) (hm : Vm.impl_mergeOf x0 x1 x2 = some r) : Q0 161 [b, d, e] W0 fun Wf v => ∃ u0, v = u0 ∧ OwS Wf LL [] [u0] r := by
 unfold Vm.impl_mergeOf at hm
 refine CallR.of Tryz.func161 rfl rfl rfl rfl (sr (Nv (.slice none 0 0) rfl (sr (mv b rfl (mv d rfl (cr hm (fun _ => p173 (k0 := 2) z X) ?_))))))
 rintro z1 fe W3 hm l3 ⟨_, rfl, c3⟩
 have a4 := l3.o
 refine mv d rfl (Lw.ln x1 (X.ul a4) rfl (Lw.t rfl (T.bs 3 [vI (x1.length : Int)] (cs := [vI (x1.length : Int)]) rfl rfl (bsv rfl)) ?_))
 rintro _ _ ⟨g6, W6, rfl, rfl, l6, b6⟩
 have a7 := a4.n l6
 obtain ⟨q9, c6, hm⟩ := ob hm
 refine Lw.t rfl (T.app1S (α := Int) (K' := []) (c3.up l6) b6 (rdI _) rfl rfl c6) ?_
 rintro O _ ⟨fi, rfl, c7, c8⟩
 have ay := a7.t c7
 refine mv b rfl (mv e rfl (cr hm (fun _ => p173 (k0 := 4) (z.ul ay) (Y.ul ay)) ?_))
 rintro fj fm fn hm b3 ⟨_, rfl, c9⟩
 have b4 := ay.n b3
 refine mv e rfl (Lw.ln x2 (Y.ul b4) rfl (Lw.t rfl (T.bs 5 [vI (x2.length : Int)] (cs := [vI (x2.length : Int)]) rfl rfl (bsv rfl)) ?_))
 rintro _ _ ⟨fo, fp, rfl, rfl, az, da⟩
 have db := b4.n az
 obtain ⟨dc, dd, hm⟩ := ob hm
 refine Lw.t rfl (T.app1S (α := Int) (K' := []) (c9.up az) da (rdI _) rfl rfl dd) ?_
 rintro Z _ ⟨fq, rfl, b5, de⟩
 have df := db.t b5
 refine Gv O rfl (Nv Z rfl (sr (al 6 [.slice none 0 0] fun f b7 a0 dg => ?_)))
 have dh := df.n a0
 have b8 := (((c8.up b3).up az).up b5).up a0
 refine nl (sr (Lw.r rfl (R.mkF (vs := [ptr (bx f)]) rfl) (Nv (.func (.func 174) #[] [ptr (bx f)].toArray) rfl (sr (Gi rfl (Gi rfl (Ni rfl (ssr (mv O rfl (Lw.ln q9 b8.rd rfl (mi rfl (nl (Cw.block ?_)))))))))))))
 obtain ⟨di, dj, hm⟩ := jn_e hm
 refine Cw.loop 35 120 [11, 12, 13, 14, 15, 16, 17, 35] (fun m l w => ∃ k h i a I b9 a1 a2 a3 A x, CW.w x = w ∧ Le [6, 7, 8, 9, 10] b7 x ∧ l = [vI k, vI h, vI i, b9, a1, a2, a3, vI a] ∧ Ow x 7 [] [A] I ∧ Bx x 6 f [A] ∧ Vm.impl_mergeOf_l1 x0 x1 x2 q9 dc di m k h i a I = some r) _ ⟨0, 0, 0, 0, ([] : List Part), undef, undef, undef, undef, .slice none 0 0, b7, rfl, Le.refl _ _, rfl, owN 7 [], dg, hm⟩ ?_
 rintro (_ | fr) _ _ σ ⟨k, h, i, a, I, b9, a1, a2, a3, A, x, rfl, aa, rfl, a5, a6, hm⟩
 ·cases hm
 unfold Vm.impl_mergeOf_l1 at hm
 have cb := dh.t aa
 have a8 := b8.up aa
 have a9 := (de.up a0).up aa
 refine sr (Lw.lt rfl (nl (Cw.seq (cn hm (fun hm => ?_) fun hm => ?_))))
 ·refine sk ?_
  obtain ⟨dk, dl, hm⟩ := jn_e hm
  refine Cw.join 37 119 [11, 12, 13, 14, 15, 16, 17] (fun l w => ∃ ac ae af ah ba bb bc be ai K, CW.w K = w ∧ Le [6, 7, 8, 9, 10] x K ∧ l = [vI ac, vI ae, vI af, ba, bb, bc, be] ∧ Ow K 7 [] [ai] ah ∧ Bx K 6 f [ai] ∧ dk ac ae af ah = some r) ?_ ?_
  ·rintro _ _ σ ⟨ac, ae, af, ah, ba, bb, bc, be, ai, K, rfl, dm, rfl, dn, dp, hm⟩
   rw [dl] at hm
   exact rg (Lw.add rfl (mi rfl (nl ((agm) ⟨ac, ae, af, w64 (a + 1), ah, ba, bb, bc, be, ai, K, rfl, (aa.j dm).w, rfl, dn, dp, hm⟩))))
  ·refine Cw.block (sr (mi rfl (Ni rfl (Cw.seq ?_))))
   obtain ⟨dq, dr, hm⟩ := jn_e hm
   refine Cw.join 38 49 [49] (fun l w => ∃ bg aj, CW.w aj = w ∧ Le [] x aj ∧ l = [vB bg] ∧ dq bg = some r) ?_ ?_
   ·rintro _ _ σ ⟨bg, aj, rfl, y, rfl, hm⟩
    rw [dr] at hm
    have ds := cb.n y
    refine cn hm (fun hm => ?_) fun hm => ?_
    ·exact Cw.exit ((ag) ⟨k, h, i, I, vI a, a1, a2, a3, A, aj, rfl, y.w, rfl, (a5.up y), (a6.up y), hm⟩)
    ·refine sk (Cw.seq (Cw.draw [] [(0, 0), (1, 0), (2, 0), (3, 0), (4, 0), (5, 0), (6, 0), (7, 0), (8, 0), (9, 1), (10, 0), (11, 0), (12, 0), (13, 0), (14, 0), (15, 0), (16, 1), (17, 0), (18, 0), (19, 0), (20, 0)] mixed (by kernel_rfl) fun cc L => ?_))
     have B := ds.n L
     have ak := (a8.up y).up L
     have am := (a9.up y).up L
     refine Dv b rfl (Di rfl (Di rfl ?_))
     obtain ⟨fs, cd, hm⟩ := ob hm
     have r103 := (z.ul B).cutV cd
     refine Mw.p rfl rfl (fun _ => R.sl (z.ul B) cd rfl (.inr rfl) (.inr rfl)) (Dv d rfl (Di rfl (Dv O rfl (Di rfl ?_))))
     obtain ⟨C, bh, hm⟩ := ob hm
     refine Mw.p rfl rfl (fun _ => R.ix (α := Int) ak.rd bh rfl rfl rfl) (Mw.q rfl rfl (fun _ c => R.ld rfl rfl (cl_cell (ak.rd.at_ bh).1 rfl (ak.rd.at_ bh).int c)) ?_)
     obtain ⟨ft, ce, hm⟩ := ob hm
     have r110 := (X.ul B).cutV ce
     refine Mw.p rfl rfl (fun _ => R.sl (X.ul B) ce rfl (.inr rfl) (.inr rfl)) (Dv e rfl (Di rfl (Dv Z rfl (Di rfl ?_))))
     obtain ⟨D, bi, hm⟩ := ob hm
     refine Mw.p rfl rfl (fun _ => R.ix (α := Int) am.rd bi rfl rfl rfl) (Mw.q rfl rfl (fun _ c => R.ld rfl rfl (cl_cell (am.rd.at_ bi).1 rfl (am.rd.at_ bi).int c)) ?_)
     obtain ⟨fu, cf, hm⟩ := ob hm
     have r117 := (Y.ul B).cutV cf
     refine Mw.p rfl rfl (fun _ => R.sl (Y.ul B) cf rfl (.inr rfl) (.inr rfl)) (Hv (cutV b (k : Int).toNat (a : Int).toNat (Rp.sz (Str))) rfl (Hv (cutV d (h : Int).toNat (C : Int).toNat (Rp.sz (Str))) rfl (Hv (cutV e (i : Int).toNat (D : Int).toNat (Rp.sz (Str))) rfl (Mw.nil ?_))))
     obtain ⟨dt, du, hm⟩ := jn_e hm
     refine Cw.join 68 96 [] (fun l w => ∃ P an E, CW.w E = w ∧ Le [6, 7, 8, 9, 10] cc E ∧ l = [] ∧ Ow E 7 [] [an] P ∧ Bx E 6 f [an] ∧ dt P = some r) ?_ ?_
     ·rintro _ _ σ ⟨P, an, E, rfl, ao, rfl, cg, ch, hm⟩
      rw [du] at hm
      have bj := B.t ao
      obtain ⟨dv, dw, hm⟩ := jn_e hm
      refine Cw.join 97 107 [] (fun l w => ∃ ap aq Q, CW.w Q = w ∧ Le [6, 7] E Q ∧ l = [] ∧ Ow Q 7 [] [aq] ap ∧ Bx Q 6 f [aq] ∧ dv ap = some r) ?_ ?_
      ·rintro _ _ σ ⟨ap, aq, Q, rfl, bk, rfl, dx, dy, hm⟩
       rw [dw] at hm
       refine Cw.draw [] [(0, 0), (1, 0), (2, 0), (3, 0), (4, 0), (5, 1), (6, 0), (7, 0), (8, 0), (9, 0), (10, 1), (11, 0), (12, 0), (13, 0), (14, 0)] mixed (by kernel_rfl) fun dz S => ?_
       have bl := ((ak.up ao).up bk).up S
       have bm := ((am.up ao).up bk).up S
       refine Di rfl (Mw.p rfl rfl (fun _ => R.add rfl rfl) (Dv O rfl (Di rfl ?_)))
       obtain ⟨d0, bn, hm⟩ := ob hm
       refine Mw.p rfl rfl (fun _ => R.ix (α := Int) bl.rd bn rfl rfl rfl) (Mw.q rfl rfl (fun _ c => R.ld rfl rfl (cl_cell (bl.rd.at_ bn).1 rfl (bl.rd.at_ bn).int c)) (Mw.p rfl rfl (fun _ => R.add rfl rfl) (Dv Z rfl (Di rfl ?_))))
       obtain ⟨d1, bp, hm⟩ := ob hm
       exact Mw.p rfl rfl (fun _ => R.ix (α := Int) bm.rd bp rfl rfl rfl) (Mw.q rfl rfl (fun _ c => R.ld rfl rfl (cl_cell (bm.rd.at_ bp).1 rfl (bm.rd.at_ bp).int c)) (Mw.p rfl rfl (fun _ => R.add rfl rfl) (Hi rfl (Hi rfl (Hi rfl (Mw.nil ((ag) ⟨w64 (a + 1), w64 (d0 + 1), w64 (d1 + 1), ap, vI a, (cutV b (k : Int).toNat (a : Int).toNat (Rp.sz (Str))), (cutV d (h : Int).toNat (C : Int).toNat (Rp.sz (Str))), (cutV e (i : Int).toNat (D : Int).toNat (Rp.sz (Str))), aq, dz, rfl, ((((y.j L).j ao).j bk).j S).w, rfl, (dx.up S), (dy.up S), hm⟩)))))))
      ·refine sr (mi rfl (mv b rfl (Lw.ln x0 (z.ul bj) rfl (Lw.lt rfl (nl (cn hm (fun hm => ?_) fun hm => ?_))))))
       ·refine rg (mv (.func (.func 174) #[] [ptr (bx f)].toArray) rfl (mv b rfl (mi rfl (mi rfl (Lw.add rfl ?_)))))
        obtain ⟨fv, ci, hm⟩ := ob hm
        have r157 := (z.ul bj).cutV ci
        refine Lw.r rfl (R.sl (z.ul bj) ci rfl (.inr rfl) (.inr rfl)) ?_
        obtain ⟨d2, d3, hm⟩ := ob hm
        refine Lw.t rfl (T.callV (vals := [(cutV b (a : Int).toNat (w64 (a + 1) : Int).toNat (Rp.sz (Str)))]) (caps := [ptr (bx f)]) rfl rfl (p174  (c0 := 6) (c1 := 7) (x1 := P) r157 ch cg rfl d3)) ?_
        rintro _ _ ⟨d4, rfl, d5, ⟨d6, rfl, d7, d8⟩⟩
        exact nl ((ag) ⟨d2, d6, d4, rfl, d5, rfl, d7, d8, hm⟩)
       ·exact sk ((ag) ⟨P, an, E, rfl, Le.refl _ _, rfl, cg, ch, hm⟩)
     ·refine Cw.block ?_
      obtain ⟨d9, ea, hm⟩ := jn_e hm
      refine Cw.join 78 86 [78] (fun l w => ∃ bq br, CW.w br = w ∧ Le [] cc br ∧ l = [vB bq] ∧ d9 bq = some r) ?_ ?_
      ·rintro _ _ σ ⟨bq, br, rfl, M, rfl, hm⟩
       rw [ea] at hm
       have ar := M.o
       have bu := ((a5.up y).up L).up M
       have bv := ((a6.up y).up L).up M
       refine cn hm (fun hm => ?_) fun hm => ?_
       ·refine rg (mv (.func (.func 174) #[] [ptr (bx f)].toArray) rfl (mv (cutV e (i : Int).toNat (D : Int).toNat (Rp.sz (Str))) rfl ?_))
        obtain ⟨eb, ec, hm⟩ := ob hm
        refine Lw.t rfl (T.callV (vals := [(cutV e (i : Int).toNat (D : Int).toNat (Rp.sz (Str)))]) (caps := [ptr (bx f)]) rfl rfl (p174  (c0 := 6) (c1 := 7) (x1 := I) (r117.ul ar) bv bu rfl ec)) ?_
        rintro _ _ ⟨ed, rfl, ee, ⟨ef, rfl, eg, eh⟩⟩
        exact nl ((ag) ⟨eb, ef, ed, rfl, (M.j ee).w, rfl, eg, eh, hm⟩)
       ·refine sr (mv (cutV e (i : Int).toNat (D : Int).toNat (Rp.sz (Str))) rfl (mv (cutV b (k : Int).toNat (a : Int).toNat (Rp.sz (Str))) rfl (ca hm (fun _ => p140 (r117.ul ar) (r103.ul ar)) fun fw fx hm F => ?_)))
        have cj := ar.n F
        refine Nb rfl (cn hm (fun hm => ?_) fun hm => ?_)
        ·refine rg (mv (.func (.func 174) #[] [ptr (bx f)].toArray) rfl (mv (cutV d (h : Int).toNat (C : Int).toNat (Rp.sz (Str))) rfl ?_))
         obtain ⟨ei, ej, hm⟩ := ob hm
         refine Lw.t rfl (T.callV (vals := [(cutV d (h : Int).toNat (C : Int).toNat (Rp.sz (Str)))]) (caps := [ptr (bx f)]) rfl rfl (p174  (c0 := 6) (c1 := 7) (x1 := I) (r110.ul cj) (bv.up F) (bu.up F) rfl ej)) ?_
         rintro _ _ ⟨ek, rfl, el, ⟨em, rfl, en, eo⟩⟩
         exact nl ((ag) ⟨ei, em, ek, rfl, ((M.j F).j el).w, rfl, en, eo, hm⟩)
        ·refine Cw.draw [] [(0, 1), (1, 0), (3, 0), (5, 0), (2, 2), (4, 2), (6, 2), (7, 0), (8, 2), (9, 3), (10, 3)] mixed (by kernel_rfl) fun fy au => ?_
         have ck := cj.n au
         have cl := (bv.up F).up au
         refine Mw.q rfl rfl (fun _ c => R.ld (v := A) rfl rfl (cl.clc0 rfl rfl c)) (Dv (cutV b (k : Int).toNat (a : Int).toNat (Rp.sz (Str))) rfl (Dv (cutV d (h : Int).toNat (C : Int).toNat (Rp.sz (Str))) rfl (Dv (cutV e (i : Int).toNat (D : Int).toNat (Rp.sz (Str))) rfl ?_)))
         obtain ⟨ep, er, hm⟩ := ob hm
         refine Mw.t rfl rfl (T.call rfl (p105 (k0 := 8) (r103.ul ck) er)) ?_
         rintro av _ ⟨fz, rfl, U, ⟨_, rfl, es⟩⟩
         have cm := ck.n U
         refine m0 U fun et => ?_
         obtain ⟨eu, ew, hm⟩ := ob hm
         refine Mw.t rfl rfl (T.call rfl (p105 (k0 := 9) (r110.ul cm) ew)) ?_
         rintro aw _ ⟨f0, rfl, N, ⟨_, rfl, co⟩⟩
         have ex := cm.n N
         refine mc et N fun ey => ?_
         obtain ⟨ez, e0, hm⟩ := ob hm
         refine Mw.t rfl rfl (T.call rfl (p105 (k0 := 10) (r117.ul ex) e0)) ?_
         rintro ax _ ⟨f1, rfl, G, ⟨_, rfl, cp⟩⟩
         have cq := (es.up N).up G
         refine mc ey G fun e1 => Mw.p rfl rfl (fun _ => R.bd (zs := [vB false, .slice none 0 0, .slice none 0 0, .slice none 0 0, .slice none 0 0]) (cs := [vB true, .slice none 0 0, av, aw, ax]) [(0, vB true), (2, av), (3, aw), (4, ax)] rfl rfl rfl (bp_cons rfl rfl (bp_cons cq.oc rfl (bp_cons (co.up G).oc rfl (bp_cons cp.oc rfl bp_nil))))) (Mw.t rfl rfl (T.bs 11 [.agg [vB true, .slice none 0 0, av, aw, ax].toArray] (cs := [vB true, .slice none 0 0, av, aw, ax]) rfl rfl (bsA rfl)) ?_)
         rintro _ _ ⟨f2, f3, rfl, rfl, H, e2⟩
         refine mc e1 H fun f4 => ?_
         obtain ⟨e3, e4, hm⟩ := ob hm
         refine Mw.l rfl rfl (T.app1 (α := Part) (J := [8, 9, 10]) (K' := []) ((((((bu.up F).up au).up U).up N).up G).up H) e2 (Part.own true ([] : List Str) ep eu ez (owsN []) (cq.up H).s ((co.up G).up H).s (cp.up H).s) rfl rfl e4) ?_
         rintro ct _ ⟨f5, rfl, cu, cv⟩
         refine Mw.lu rfl (T.st0 (v := ct) (((((cl.up U).up N).up G).up H).up cu) rfl rfl cv.oc rfl rfl) ?_
         rintro _ _ ⟨e5, rfl, cw, e6⟩
         exact Mw.nil ((ag) ⟨e3, ct, e5, rfl, ((((((((M.j F).j au).j U).j N).j G).j H).j cu).j cw).w, rfl, (cv.up cw), e6, hm⟩)
      ·refine rg (mv (cutV d (h : Int).toNat (C : Int).toNat (Rp.sz (Str))) rfl (mv (cutV b (k : Int).toNat (a : Int).toNat (Rp.sz (Str))) rfl (ca hm (fun _ => p140 r110 r103) fun f6 e7 hm bw => ?_)))
       have cx := bw.o
       refine mb rfl (bs hm (fun V hm => ?_) fun V hm => ?_)
       ·exact psk 3 V rfl (Pb V rfl (Nb rfl ((ag) ⟨true, e7, rfl, bw, rfl, hm⟩)))
       ·exact wak 3 V (mv (cutV d (h : Int).toNat (C : Int).toNat (Rp.sz (Str))) rfl (mv (cutV e (i : Int).toNat (D : Int).toNat (Rp.sz (Str))) rfl (ca hm (fun _ => p140 (r110.ul cx) (r117.ul cx)) fun e8 e9 hm fb => Pb V rfl (Nb rfl ((ag) ⟨e8, e9, rfl, (bw.j fb).w, rfl, hm⟩)))))
   ·refine rg (mv O rfl (mi rfl ?_))
    obtain ⟨f7, cy, hm⟩ := ob hm
    refine Lw.r rfl (R.ix (α := Int) a8.rd cy rfl rfl rfl) (Lw.r rfl (R.ld rfl rfl (a8.rd.at_ cy).int) (Lw.lt rfl (mb rfl (bs hm (fun W hm => ?_) fun W hm => ?_))))
    ·exact psk 5 W rfl (Pb W rfl (nl ((ag) ⟨true, x, rfl, Le.refl _ _, rfl, hm⟩)))
    ·refine wak 5 W (mv Z rfl (mi rfl ?_))
     obtain ⟨fc, cz, hm⟩ := ob hm
     exact Lw.r rfl (R.ix (α := Int) a9.rd cz rfl rfl rfl) (Lw.r rfl (R.ld rfl rfl (a9.rd.at_ cz).int) (Lw.lt rfl (Pb W rfl (nl ((ag) ⟨decide ((fc : Int) < (0 : Int)), x, rfl, Le.refl _ _, rfl, hm⟩)))))
 ·refine Cw.exit ?_
  rw [dj] at hm
  refine sr (lz a6 rfl (Nv A rfl ?_))
  cases hm
  exact Cw.ret (ret1 rfl (Res.mk cb ⟨A, rfl, a5.s.sub rfl rfl⟩))
theorem p161 {x0 b x1 d x2 f k0 r} (h : Rd W K [b] x0) (i : Rd W K [d] x1) (k : Rd W K [f] x2) (hm : Vm.impl_mergeOf x0 x1 x2 = some r) : Q1 161 [b, d, f] W [] fun W' v => ∃ a, v = a ∧ Ow W' k0 [] [a] r :=
 (c161 (h.view _) (i.view _) (k.view _) hm).ad (fk k0) fun _ _ ⟨a, e, x⟩ => ⟨a, e, x.back (fk_LL _)⟩
theorem c142 {x0 a b d e r} (i : Rd W0 [0] [vB x0.Clash, a, b, d, e] x0) (hm : Vm.impl_MergeText_c1 x0 = some r) : Q0 142 [.agg [vB x0.Clash, a, b, d, e].toArray] W0 fun Wf v => ∃ f, v = .tuple [f, vB r.2].toArray ∧ OwS Wf LL [] [f] r.1 := by
 unfold Vm.impl_MergeText_c1 at hm
 obtain ⟨y, z, A, B, h, C, D, E, F⟩ := Part.split i
 simp only [List.cons.injEq, and_true, true_and] at h
 obtain ⟨rfl, rfl, rfl, rfl⟩ := h
 refine CallR.of Tryz.func142 rfl rfl rfl rfl (sr (bo 2 rfl fun G H k I => ?_))
 have x := k.o
 refine Gv (.slice none 0 0) rfl (Nb rfl (sr (Gv (.slice none 0 0) rfl (Nb rfl ?_))))
 cases hm
 exact Cw.ret (ret2 rfl rfl (Res.mk x ⟨.slice none 0 0, rfl, (owsN []).sub rfl rfl⟩))
theorem p142 {x0 b d f h k0 r} (i : Rd W K [vB x0.Clash, b, d, f, h] x0) (hm : Vm.impl_MergeText_c1 x0 = some r) : Q1 142 [.agg [vB x0.Clash, b, d, f, h].toArray] W [] fun W' v => ∃ a, v = .tuple [a, vB r.2].toArray ∧ Ow W' k0 [] [a] r.1 :=
 (c142 (i.view _) hm).ad (fk k0) fun _ _ ⟨a, e, k⟩ => ⟨a, e, k.back (fk_LL _)⟩
theorem c141_142 {x0 C x1 D x2 E r} (h0 : Rd W0 [0] [C] x0) (h1 : Rd W0 [0] [D] x1) (h2 : Rd W0 [0] [E] x2) (hm : Vm.impl_merged_at_impl_MergeText_c1 x0 x1 x2 = some r) : Q0 141 [C, D, E, .func (.func 142) #[] [].toArray] W0 fun Wf v => ∃ u0, v = .tuple [u0, vB r.2].toArray ∧ OwS Wf LL [] [u0] r.1 := by
 unfold Vm.impl_merged_at_impl_MergeText_c1 at hm
 refine CallR.of Tryz.func141 rfl rfl rfl rfl (sr (Gv (.slice none 0 0) rfl (Nb rfl (ssr (mv C rfl (mv D rfl (mv E rfl (ca hm (fun _ => p160 h0 h1 h2) fun z1 W3 hm l3 => ?_))))))))
 have i := l3.o
 refine Lw.r rfl (R.not rfl) (nl (cn hm (fun hm => ?_) fun hm => ?_))
 ·refine sr (Gv (.slice none 0 0) rfl (Nb rfl ?_))
  cases hm
  exact Cw.ret (ret2 rfl rfl (Res.mk i ⟨.slice none 0 0, rfl, (owsN []).sub rfl rfl⟩))
 ·refine sk (sr (Nv (.slice none 0 0) rfl (ssr (mv C rfl (mv D rfl (mv E rfl (cr hm (fun _ => p161 (k0 := 2) (h0.ul i) (h1.ul i) (h2.ul i)) ?_)))))))
  rintro O a3 b4 hm a5 ⟨_, rfl, aj⟩
  have a6 := i.n a5
  refine Lw.ln O aj.rd rfl (mi rfl (nl (Cw.block ?_)))
  obtain ⟨P, a7, a8, a9⟩ := dyeE _ 2
  rw [← a7]
  have ak : Rd (α := List Vm.Part) P [0] [a3] O := by rw [a9]; exact (aj.rd.dye 2).sub (M := [0]) rfl
  have am := a6.t a8
  obtain ⟨ba, bb, hm⟩ := jn_e hm
  refine Cw.loop 26 46 [8, 9, 10, 12, 13, 14, 15, 26] (fun m l w => ∃ k x Q F y b an ao S U z, CW.w z = w ∧ Le [6, 7, 8] P z ∧ l = [y, vB x, b, an, ao, S, U, vI F] ∧ Ow z 5 [] [y] k ∧ Ow z 6 [] [b] Q ∧ Vm.impl_merged_at_impl_MergeText_c1_l1 O ba m k x Q F = some r) _ ⟨([] : List Str), false, ([] : List Str), 0, .slice none 0 0, .slice none 0 0, undef, undef, undef, undef, P, rfl, Le.refl _ _, rfl, owN 5 [], owN 6 [], hm⟩ ?_
  rintro (_ | b5) _ _ σ ⟨k, x, Q, F, y, b, an, ao, S, U, z, rfl, ap, rfl, bc, V, hm⟩
  ·cases hm
  unfold Vm.impl_merged_at_impl_MergeText_c1_l1 at hm
  have G := ap.s
  refine sr (Lw.lt rfl (nl (Cw.seq (cn hm (fun hm => ?_) fun hm => ?_))))
  ·refine sk (Cw.seq (Cw.block (sr ?_)))
   obtain ⟨d, aq, hm⟩ := ob hm
   refine Lw.r rfl (R.ix (α := Part) (ak.ul G) aq rfl rfl rfl) ?_
   obtain ⟨x36, c37, _, r38⟩ := ((ak.ul G).at_ aq).cells
   obtain ⟨W, be, bg, bh, rfl, r40, r42, r44, r46⟩ := Part.split r38
   refine Lw.r rfl (R.lda c37 rfl rfl) (al 7 [vB false, .slice none 0 0, .slice none 0 0, .slice none 0 0, .slice none 0 0] fun bi b6 H bj => ?_)
   have f := H.o
   refine sta bj (oc_cons rfl (oc_cons r40.oc (oc_cons r42.oc (oc_cons r44.oc (oc_cons r46.oc oc_nil))))) fun ar I X => ?_
   have h := I.s
   have au := (bc.up H).up I
   refine nl (sr (fl X rfl (Nv W rfl ?_)))
   obtain ⟨bk, bl, hm⟩ := jn_e hm
   refine Cw.join 32 42 [8, 9, 13, 14, 15] (fun l w => ∃ J L Y N A Z aa B, CW.w B = w ∧ Le [8] ar B ∧ l = [N, vB L, A, Z, aa] ∧ Ow B 5 [] [N] J ∧ Rd B [0] [A] Y ∧ bk J L Y = some r) ?_ ?_
   ·rintro _ _ σ ⟨J, L, Y, N, A, Z, aa, B, rfl, av, rfl, bm, r61, hm⟩
    rw [bl] at hm
    refine rg (mv b rfl (mv A rfl ?_))
    obtain ⟨bn, bp, hm⟩ := ob hm
    refine Lw.t rfl (T.appP (α := Str) (((V.up H).up I).up av) r61 rfl rfl bp) ?_
    rintro aw _ ⟨bq, rfl, ax, br⟩
    exact Nv aw rfl (rg (Lw.add rfl (mi rfl (nl ((agm) ⟨J, L, bn, w64 (F + 1), N, aw, ptr (bx bi), A, Z, aa, bq, rfl, ((((ap.j H).j I).j av).j ax).w, rfl, (bm.up ax), br, hm⟩)))))
   ·refine sr (fl X rfl (nl (cn hm (fun hm => ?_) fun hm => ?_)))
    ·refine sr (mv (.func (.func 142) #[] [].toArray) rfl (la X ?_))
     obtain ⟨e, bu, hm⟩ := ob hm
     refine Lw.t rfl (T.callV (vals := [.agg [vB d.Clash, W, be, bg, bh].toArray]) (caps := []) rfl rfl (p142 (k0 := 8) (Part.rd (K := [0]) d.Clash d.Lines d.Old d.One d.Two (r40.ul (f.trans h)) (r42.ul (f.trans h)) (r44.ul (f.trans h)) (r46.ul (f.trans h))) bu)) ?_
     rintro _ _ ⟨b7, rfl, ac, ⟨a, rfl, bv⟩⟩
     have bw := (((am.trans G).trans f).trans h).n ac
     refine mv (.tuple [a, vB e.2].toArray) rfl (Lw.r rfl (R.ext (vs := [a, vB e.2]) (v := a) rfl rfl) (Lw.r rfl (R.ext (vs := [a, vB e.2]) (v := vB e.2) rfl rfl) (Gv a rfl (Nb rfl (ssr (mb rfl (Lw.r rfl (R.not rfl) (nl (cn hm (fun hm => ?_) fun hm => ?_)))))))))
     ·refine sr (Gv (.slice none 0 0) rfl (Nb rfl ?_))
      cases hm
      exact Cw.ret (ret2 rfl rfl (Res.mk bw ⟨.slice none 0 0, rfl, (owsN []).sub rfl rfl⟩))
     ·refine sk (rg (mv a rfl (Nv a rfl ?_)))
      obtain ⟨ay, bz, az, b0⟩ := dyeE _ 8
      have b1 : Rd (α := List Str) ay [0] [a] e.1 := by rw [b0]; exact (bv.rd.dye 8).sub (M := [0]) rfl
      exact (ag) ⟨k, x, e.1, y, a, a, vB e.2, ay, bz, (ac.j az).w, rfl, ((au.up ac).up az), b1, hm⟩
    ·exact sk ((ag) ⟨k, x, d.Lines, y, W, S, U, ar, rfl, Le.refl _ _, rfl, au, (r40.ul (f.trans h)), hm⟩)
  ·refine Cw.exit ?_
   rw [bb] at hm
   refine ssr (mv b rfl (ca hm (fun _ => p84 (K := [6]) V.rd) fun b8 b9 hm a0 => ?_))
   have a1 := (am.trans G).n a0
   refine Lw.r rfl (R.not rfl) (nl (cn hm (fun hm => ?_) fun hm => ?_))
   ·refine sr (Gv (.slice none 0 0) rfl (Nb rfl ?_))
    cases hm
    exact Cw.ret (ret2 rfl rfl (Res.mk a1 ⟨.slice none 0 0, rfl, (owsN []).sub rfl rfl⟩))
   ·refine sk (sr (mv b rfl (Gv b rfl (Nb rfl ?_))))
    cases hm
    exact Cw.ret (ret2 rfl rfl (Res.mk a1 ⟨b, rfl, (V.up a0).s.sub rfl rfl⟩))
theorem p141_142 {x0 b x1 d x2 f k0 r} (h : Rd W K [b] x0) (i : Rd W K [d] x1) (k : Rd W K [f] x2) (hm : Vm.impl_merged_at_impl_MergeText_c1 x0 x1 x2 = some r) : Q1 141 [b, d, f, .func (.func 142) #[] [].toArray] W [] fun W' v => ∃ a, v = .tuple [a, vB r.2].toArray ∧ Ow W' k0 [] [a] r.1 :=
 (c141_142 (h.view _) (i.view _) (k.view _) hm).ad (fk k0) fun _ _ ⟨a, e, x⟩ => ⟨a, e, x.back (fk_LL _)⟩
theorem c127 {x0 b x1 d x2 e r} (i : Rd W0 [0] [b] x0) (k : Rd W0 [0] [d] x1) (x : Rd W0 [0] [e] x2) (hm : Vm.impl_MergeText x0 x1 x2 = some r) : Q0 127 [b, d, e] W0 fun Wf v => ∃ h, v = .tuple [h, vB r.2].toArray ∧ OwS Wf LL [] [h] r.1 := by
 unfold Vm.impl_MergeText at hm
 refine CallR.of Tryz.func127 rfl rfl rfl rfl (sr (Gv (.slice none 0 0) rfl (Nb rfl (sr (mv b rfl (mv d rfl (mv e rfl (cr hm (fun _ => p141_142 (k0 := 2) i k x) ?_))))))))
 rintro f _ B hm y ⟨a, rfl, z⟩
 have A := y.o
 refine Lw.r rfl (R.ext (vs := [a, vB f.2]) (v := a) rfl rfl) (Lw.r rfl (R.ext (vs := [a, vB f.2]) (v := vB f.2) rfl rfl) (Gv a rfl (Nb rfl ?_)))
 cases hm
 exact Cw.ret (ret2 rfl rfl (Res.mk A ⟨a, rfl, z.s.sub rfl rfl⟩))
theorem p127 {x0 b x1 d x2 f k0 r} (h : Rd W K [b] x0) (i : Rd W K [d] x1) (k : Rd W K [f] x2) (hm : Vm.impl_MergeText x0 x1 x2 = some r) : Q1 127 [b, d, f] W [] fun W' v => ∃ a, v = .tuple [a, vB r.2].toArray ∧ Ow W' k0 [] [a] r.1 :=
 (c127 (h.view _) (i.view _) (k.view _) hm).ad (fk k0) fun _ _ ⟨a, e, x⟩ => ⟨a, e, x.back (fk_LL _)⟩
theorem c108 {x0 h x1 I x2 J r} (h0 : Rd W0 [0] [h, vB x0.file] x0) (h1 : Rd W0 [0] [I, vB x1.file] x1) (h2 : Rd W0 [0] [J, vB x2.file] x2) (hm : Vm.impl_joinAt x0 x1 x2 = some r) : Q0 108 [.agg [h, vB x0.file].toArray, .agg [I, vB x1.file].toArray, .agg [J, vB x2.file].toArray] W0 fun Wf v => ∃ X, v = .tuple [.agg [X, vB r.1.file].toArray, vI r.2].toArray ∧ Rd Wf [0] [X] r.1.text := by
 unfold Vm.impl_joinAt at hm
 obtain ⟨b7, Y, b⟩ := has.split h0
 simp only [List.cons.injEq, and_true, true_and] at Y
 obtain rfl := Y
 obtain ⟨b8, Z, i⟩ := has.split h1
 simp only [List.cons.injEq, and_true, true_and] at Z
 obtain rfl := Z
 obtain ⟨b9, aa, k⟩ := has.split h2
 simp only [List.cons.injEq, and_true, true_and] at aa
 obtain rfl := aa
 refine CallR.of Tryz.func108 rfl rfl rfl rfl (sr (bo 2 rfl fun g1 W1 l1 b1 => ?_))
 have a2 := l1.o
 refine bo 3 rfl fun g3 W3 l3 b3 => ?_
 have a4 := a2.n l3
 refine bo 4 rfl fun g6 W6 L b6 => ?_
 have a7 := a4.n L
 refine al 5 [.slice none 0 0, vB false] fun ch a6 l10 af => ?_
 have D := a7.n l10
 have N := ((b1.up l3).up L).up l10
 have O := (b3.up L).up l10
 refine Ni rfl (Cw.seq (Cw.block ?_))
 obtain ⟨a8, a9, hm⟩ := jn_e hm
 refine Cw.join 10 18 [10] (fun l w => ∃ P Q, CW.w Q = w ∧ Le [] a6 Q ∧ l = [vB P] ∧ a8 P = some r) ?_ ?_
 ·rintro _ _ σ ⟨P, Q, rfl, d, rfl, hm⟩
  rw [a9] at hm
  have E := D.n d
  have F := (b6.up l10).up d
  refine cn hm (fun hm => ?_) fun hm => ?_
  ·refine sr (la F (sta (af.up d) (oc_cons k.oc (oc_cons rfl oc_nil)) fun ci ba bb => ?_))
   have ah := E.t ba
   refine Ni rfl ?_
   cases hm
   exact Cw.ret (retA2 rfl bb rfl (Res.mk ah ⟨J, rfl, (k.ul ah)⟩))
  ·refine sr (la F (la (N.up d) (ca hm (fun _ => p126 (has.rd (K := [0]) x2.text x2.file (k.ul E)) (has.rd (K := [0]) x0.text x0.file (b.ul E))) fun cj S hm e => ?_)))
   have ai := E.n e
   have T := (O.up d).up e
   have aj := (af.up d).up e
   refine Nb rfl (cn hm (fun hm => ?_) fun hm => ?_)
   ·refine sr (la T (sta aj (oc_cons i.oc (oc_cons rfl oc_nil)) fun ck bc be => ?_))
    have ak := ai.t bc
    refine Ni rfl ?_
    cases hm
    exact Cw.ret (retA2 rfl be rfl (Res.mk ak ⟨I, rfl, (i.ul ak)⟩))
   ·obtain ⟨bg, bh, hm⟩ := jn_e hm
    refine Cw.join 25 33 [25] (fun l w => ∃ U V, CW.w V = w ∧ Le [] S V ∧ l = [vB U] ∧ bg U = some r) ?_ ?_
    ·rintro _ _ σ ⟨U, V, rfl, x, rfl, hm⟩
     rw [bh] at hm
     have f := ai.n x
     have y := ((N.up d).up e).up x
     have G := aj.up x
     refine cn hm (fun hm => ?_) fun hm => ?_
     ·refine sr (la y (sta G (oc_cons b.oc (oc_cons rfl oc_nil)) fun cl bi bj => ?_))
      have am := f.t bi
      refine Ni rfl ?_
      cases hm
      exact Cw.ret (retA2 rfl bj rfl (Res.mk am ⟨h, rfl, (b.ul am)⟩))
     ·refine sr (fl y rfl (Lw.r rfl (R.not rfl) (Nb rfl (cn hm (fun hm => ?_) fun hm => ?_))))
      ·refine sr (la y (sta G (oc_cons b.oc (oc_cons rfl oc_nil)) fun cm bk bl => ?_))
       have an := f.t bk
       refine Ni rfl ?_
       cases hm
       exact Cw.ret (retA2 rfl bl rfl (Res.mk an ⟨h, rfl, (b.ul an)⟩))
      ·refine sk (sr (fl y rfl (fl (T.up x) rfl (fl ((F.up e).up x) rfl (cr hm (fun _ => p127 (k0 := 6) (b.ul f) (i.ul f) (k.ul f)) ?_)))))
       rintro z _ co hm H ⟨a, rfl, W⟩
       have ao := f.n H
       refine mv (.tuple [a, vB z.2].toArray) rfl (Lw.r rfl (R.ext (vs := [a, vB z.2]) (v := a) rfl rfl) (Lw.r rfl (R.ext (vs := [a, vB z.2]) (v := vB z.2) rfl rfl) (Gv a rfl (Nb rfl (ssr (mb rfl (Lw.r rfl (R.not rfl) (nl (cn hm (fun hm => ?_) fun hm => ?_)))))))))
       ·refine sr (la (y.up H) (sta (G.up H) (oc_cons b.oc (oc_cons rfl oc_nil)) fun cp bm bn => ?_))
        have ap := ao.t bm
        refine Ni rfl ?_
        cases hm
        exact Cw.ret (retA2 rfl bn rfl (Res.mk ap ⟨h, rfl, (b.ul ap)⟩))
       ·refine sk (sr (mv a rfl (Lw.r rfl (R.bd (zs := [.slice none 0 0, vB false]) (cs := [a, vB true]) [(0, a), (1, vB true)] rfl rfl rfl (bp_cons W.oc rfl (bp_cons rfl rfl bp_nil))) (sta (G.up H) (oc_cons W.oc (oc_cons rfl oc_nil)) fun cq aq bp => ?_))))
        have bq := ao.t aq
        refine Ni rfl ?_
        obtain ⟨br, bu, ar, bv⟩ := dyeE _ 6
        have bw : Rd (α := List Str) br [0] [a] z.1 := by rw [bv]; exact ((W.up aq).rd.dye 6).sub (M := [0]) rfl
        have bz := bq.t ar
        cases hm
        rw [← bu]
        exact Cw.ret (retA2 rfl (bp.up ar) rfl (Res.mk bz ⟨a, rfl, bw⟩))
    ·refine rg (fl T rfl (Lw.r rfl (R.not rfl) (mb rfl (bs hm (fun A hm => ?_) fun A hm => ?_))))
     ·exact psk 3 A rfl (Pb A rfl (Nb rfl ((ag) ⟨true, S, rfl, Le.refl _ _, rfl, hm⟩)))
     ·exact wak 3 A (fl (F.up e) rfl (Lw.r rfl (R.not rfl) (Pb A rfl (Nb rfl ((ag) ⟨(!x2.file), S, rfl, Le.refl _ _, rfl, hm⟩)))))
 ·refine rg (la O (la N (ca hm (fun _ => p126 (has.rd (K := [0]) x1.text x1.file (i.ul D)) (has.rd (K := [0]) x0.text x0.file (b.ul D))) fun ct b0 hm B => ?_)))
  have au := D.n B
  refine mb rfl (bs hm (fun C hm => ?_) fun C hm => ?_)
  ·exact psk 3 C rfl (Pb C rfl (Nb rfl ((ag) ⟨true, b0, rfl, B, rfl, hm⟩)))
  ·exact wak 3 C (la (O.up B) (la ((b6.up l10).up B) (ca hm (fun _ => p126 (has.rd (K := [0]) x1.text x1.file (i.ul au)) (has.rd (K := [0]) x2.text x2.file (k.ul au))) fun b2 b4 hm b5 => Pb C rfl (Nb rfl ((ag) ⟨b2, b4, rfl, (B.j b5).w, rfl, hm⟩)))))
theorem p108 {x0 b x1 d x2 f r} (h : Rd W K [b, vB x0.file] x0) (i : Rd W K [d, vB x1.file] x1) (k : Rd W K [f, vB x2.file] x2) (hm : Vm.impl_joinAt x0 x1 x2 = some r) : Q1 108 [.agg [b, vB x0.file].toArray, .agg [d, vB x1.file].toArray, .agg [f, vB x2.file].toArray] W [] fun W' v => ∃ a, v = .tuple [.agg [a, vB r.1.file].toArray, vI r.2].toArray ∧ Rd W' (0 :: K) [a] r.1.text :=
 (c108 (h.view _) (i.view _) (k.view _) hm).ad (fk 0) fun _ _ ⟨a, e, x⟩ => ⟨a, e, x.back rfl⟩
theorem c90 {x0 z x1 B x2 C r} (L : Rd W0 [0] [z] x0) (h1 : Rd W0 [0] [B] x1) (h2 : Rd W0 [0] [C] x2) (bb : Gl 0 W0 [0]) (hm : Vm.impl_JoinOf x0 x1 x2 = some r) : Q0 90 [z, B, C] W0 fun Wf v => ∃ u0 u1, v = .tuple [u0, u1].toArray ∧ OwS (α := List (Sh Vm.File)) Wf [31] [0] [u0] r.1 ∧ OwS Wf [32] [] [u1] r.2 := by
 unfold Vm.impl_JoinOf at hm
 refine CallR.of Tryz.func90 rfl rfl rfl rfl (sr (Gv (.slice none 0 0) rfl (Nv (.slice none 0 0) rfl (ssr (mv z rfl (mv B rfl (mv C rfl (ca hm (fun _ => p89 L h1 h2 bb) fun z1 W3 hm l3 => ?_))))))))
 have N := l3.o
 refine Lw.r rfl (R.not rfl) (nl (cn hm (fun hm => ?_) fun hm => ?_))
 ·refine sr (Gv (.slice none 0 0) rfl (Nv (.slice none 0 0) rfl ?_))
  cases hm
  exact Cw.ret (ret2 rfl rfl (Res.mk N ⟨.slice none 0 0, .slice none 0 0, rfl, (owsNSh [0]).sub rfl rfl, (owsN []).sub rfl rfl⟩))
 ·refine sk (sr (Nv (.slice none 0 0) rfl (sr (Nv (.slice none 0 0) rfl (ssr (mv z rfl (mv B rfl (mv C rfl (Lw.t rfl (T.bsS (α := Sh (List File)) (xs := [x0, x1, x2]) 2 [0] (W := W3) [z, B, C] (bsE [[z], [B], [C]] (mapc L.oc (mapc h1.oc (mapc h2.oc mapn))) (Each.cons ((L.ul N).sh1) (Each.cons ((h1.ul N).sh1) (Each.cons ((h2.ul N).sh1) Each.nil)))) rfl) ?_)))))))))
  rintro v9 _ ⟨W9, rfl, l9, o9⟩
  have cj := N.n l9
  have ck : Rd (α := List (List Vm.File)) W9 [2, 0] [v9] ([x0, x1, x2] : List (List File)) := Ow.rdSh o9
  refine cr hm (fun _ => p107 (K := [0, 2]) (k0 := 3) (ck.sub (M := [0, 2]) rfl)) ?_
  rintro bg ej bh hm cl ⟨_, rfl, au⟩
  have cm := cj.n cl
  refine Lw.ln bg au.rd rfl (mi rfl (nl (Cw.block ?_)))
  obtain ⟨co, cp, hm⟩ := jn_e hm
  refine Cw.loop 25 59 [8, 9, 11, 12, 13, 25] (fun m l w => ∃ (F : List Vm.File) (O : List Vm.Clash) (af : Int) (d h bi bj bk : Value) (i : CW), i.w = w ∧ Le [4, 5, 6, 7, 8, 9] bh i ∧ l = [d, h, bi, bj, bk, vI af] ∧ Ow (α := List (Sh Vm.File)) i 4 [0] [d] F ∧ Ow i 5 [] [h] O ∧ Vm.impl_JoinOf_l1 x0 x1 x2 bg co m F O af = some r) _ ⟨([] : List File), ([] : List Clash), 0, .slice none 0 0, .slice none 0 0, undef, undef, undef, bh, rfl, Le.refl _ _, rfl, owNSh 4 [0], owN 5 [], hm⟩ ?_
  rintro (_ | ek) _ _ σ ⟨F, O, af, d, h, bi, bj, bk, i, rfl, ah, rfl, av, aw, hm⟩
  ·cases hm
  unfold Vm.impl_JoinOf_l1 at hm
  have ai := cm.t ah
  refine sr (Lw.lt rfl (nl (Cw.seq (cn hm (fun hm => ?_) fun hm => ?_))))
  ·refine sk ?_
   obtain ⟨cq, ct, hm⟩ := jn_e hm
   refine Cw.join 27 58 [8, 9, 11, 12, 13] (fun l w => ∃ (aj : List Vm.File) (ak : List Vm.Clash) (am an ax ay az : Value) (G : CW), G.w = w ∧ Le [4, 5, 6, 7, 8, 9] i G ∧ l = [am, an, ax, ay, az] ∧ Ow (α := List (Sh Vm.File)) G 4 [0] [am] aj ∧ Ow G 5 [] [an] ak ∧ cq aj ak = some r) ?_ ?_
   ·rintro _ _ σ ⟨aj, ak, am, an, ax, ay, az, G, rfl, cu, rfl, cv, cw, hm⟩
    rw [ct] at hm
    exact rg (Lw.add rfl (mi rfl (nl ((agm) ⟨aj, ak, w64 (af + 1), am, an, ax, ay, az, G, rfl, (ah.j cu).w, rfl, cv, cw, hm⟩))))
   ·refine Cw.block (sr ?_)
    obtain ⟨b, bl, hm⟩ := ob hm
    refine Lw.r rfl (R.ix (α := Str) (au.up ah).rd bl rfl rfl rfl) (Lw.r rfl (R.ld rfl rfl ((au.up ah).rd.at_ bl).str) (Ns rfl (sr (mv z rfl (ms rfl (cr hm (fun _ => p109 (k0 := 6) (L.ul ai)) ?_))))))
    rintro P _ el hm Q ⟨cx, rfl, cy⟩
    have bm := ai.n Q
    refine mv B rfl (ms rfl (cr hm (fun _ => p109 (k0 := 7) (h1.ul bm)) ?_))
    rintro S _ em hm H ⟨cz, rfl, bn⟩
    have c0 := bm.n H
    refine mv C rfl (ms rfl (cr hm (fun _ => p109 (k0 := 8) (h2.ul c0)) ?_))
    rintro U _ en hm D ⟨c1, rfl, bp⟩
    have bq := (cy.up H).up D
    refine cr hm (fun _ => p108 (K := [6, 7, 8]) (x0 := (Vm.has.mk P.text P.file)) (x1 := (Vm.has.mk S.text S.file)) (x2 := (Vm.has.mk U.text U.file)) ((has.rd (K := [6]) P.text P.file bq.rd).sub (M := [6, 7, 8]) rfl) ((has.rd (K := [7]) S.text S.file (bn.up D).rd).sub (M := [6, 7, 8]) rfl) ((has.rd (K := [8]) U.text U.file bp.rd).sub (M := [6, 7, 8]) rfl)) ?_
    rintro a _ eo hm E ⟨e, rfl, c2⟩
    have ao := c2.sub (M := [0, 6, 7, 8]) rfl
    refine mv (.tuple [.agg [e, vB a.1.file].toArray, vI a.2].toArray) rfl (Lw.r rfl (R.ext (vs := [.agg [e, vB a.1.file].toArray, vI a.2]) (v := .agg [e, vB a.1.file].toArray) rfl rfl) (Lw.r rfl (R.ext (vs := [.agg [e, vB a.1.file].toArray, vI a.2]) (v := vI a.2) rfl rfl) (al 9 [.slice none 0 0, vB false] fun br ep k c3 => sta c3 (oc_cons ao.oc (oc_cons rfl oc_nil)) fun bu y bv => ?_)))
    have bw := (((((aw.up Q).up H).up D).up E).up k).up y
    refine Ni rfl ?_
    obtain ⟨c4, c5, hm⟩ := jn_e hm
    refine Cw.join 42 49 [9] (fun l w => ∃ V X Y, CW.w Y = w ∧ Le [5] bu Y ∧ l = [X] ∧ Ow Y 5 [] [X] V ∧ c4 V = some r) ?_ ?_
    ·rintro _ _ σ ⟨V, X, Y, rfl, f, rfl, bz, hm⟩
     rw [c5] at hm
     have b0 := ((((((av.up Q).up H).up D).up E).up k).up y).up f
     refine sr (fl (bv.up f) rfl (nl (cn hm (fun hm => ?_) fun hm => ?_)))
     ·refine rg (mv d rfl (ms rfl (fl (bv.up f) rfl (Lw.r rfl (R.bd (zs := [vS ([] : Str), .slice none 0 0]) (cs := [vS b, e]) [(0, vS b), (1, e)] rfl rfl rfl (bp_cons rfl rfl (bp_cons ao.oc rfl bp_nil))) (Lw.t rfl (T.bs 10 [.agg [vS b, e].toArray] (cs := [vS b, e]) rfl rfl (bsA rfl)) ?_)))))
      rintro _ _ ⟨er, c6, rfl, rfl, A, c7⟩
      have c8 := ao.up ((k.sub (M := [5, 9]) rfl).trans ((y.sub (M := [5, 9]) rfl).trans ((f.sub (M := [5, 9]) rfl).trans (A.sub (M := [5, 9]) rfl)))) rfl
      have c9 : Ow (α := List (Sh Vm.File)) c6 4 [0, 6, 7, 8] [d] F := (b0.up A).sub rfl
      obtain ⟨ap, da, hm⟩ := ob hm
      refine Lw.t rfl (T.app1S (α := Sh Vm.File) (K' := [0, 6, 7, 8]) c9 c7 (File.rd (K := [0, 6, 7, 8]) b a.1.text c8).sh1 rfl rfl da) ?_
      rintro Z _ ⟨es, rfl, I, db⟩
      refine Nv Z rfl ?_
      have dc := ao.up ((k.sub (M := [4, 5, 9]) rfl).trans ((y.sub (M := [4, 5, 9]) rfl).trans ((f.sub (M := [4, 5, 9]) rfl).trans ((A.sub (M := [4, 5, 9]) rfl).trans (I.sub (M := [4, 5, 9]) rfl))))) rfl
      obtain ⟨a0, dd, aq, a1⟩ := dyeE _ 6
      have de : Rd a0 [0, 7, 8] [e] a.1.text := by rw [a1]; exact (dc.dye 6).sub (M := [0, 7, 8]) rfl
      have df : Ow (α := List (Sh Vm.File)) a0 4 [0, 7, 8] [Z] ap := by rw [a1]; exact (db.dyeA 6 rfl).sub rfl
      have et : Rd (α := List Str) a0 [0] [cx] P.text := by rw [a1]; exact (((((((bq.up E).up k).up y).up f).up A).up I).rd.dye 6).sub (M := [0]) rfl
      obtain ⟨a2, dg, a3, a5⟩ := dyeE _ 7
      have dh : Rd a2 [0, 8] [e] a.1.text := by rw [a5]; exact (de.dye 7).sub (M := [0, 8]) rfl
      have di : Ow (α := List (Sh Vm.File)) a2 4 [0, 8] [Z] ap := by rw [a5]; exact (df.dyeA 7 rfl).sub rfl
      have eu : Rd (α := List Str) a2 [0] [cz] S.text := by rw [a5]; exact (((((((((bn.up D).up E).up k).up y).up f).up A).up I).up aq).rd.dye 7).sub (M := [0]) rfl
      obtain ⟨ar, dj, b1, a6⟩ := dyeE _ 8
      have ew : Rd ar [0] [e] a.1.text := by rw [a6]; exact (dh.dye 8).sub (M := [0]) rfl
      have dk : Ow (α := List (Sh Vm.File)) ar 4 [0] [Z] ap := by rw [a6]; exact (di.dyeA 8 rfl).sub rfl
      have ex : Rd (α := List Str) ar [0] [c1] U.text := by rw [a6]; exact (((((((((bp.up E).up k).up y).up f).up A).up I).up aq).up a3).rd.dye 8).sub (M := [0]) rfl
      exact (ag) ⟨ap, V, Z, X, vS b, ptr (bx br), vI a.2, ar, dj.trans (dg.trans (dd)), (((((((((((Q.j H).j D).j E).j k).j y).j f).j A).j I).j aq).j a3).j b1).w, rfl, dk, (((((bz.up A).up I).up aq).up a3).up b1), hm⟩
     ·exact sk ((ag) ⟨F, V, d, X, vS b, ptr (bx br), vI a.2, Y, rfl, ((((((Q.j H).j D).j E).j k).j y).j f).w, rfl, b0, bz, hm⟩)
    ·refine sr (mi rfl (Lw.ne rfl (nl (cn hm (fun hm => ?_) fun hm => ?_))))
     ·refine rg (mv h rfl (ms rfl (mi rfl (Lw.r rfl (R.bd (zs := [vS ([] : Str), vI 0]) (cs := [vS b, vI a.2]) [(0, vS b), (1, vI a.2)] rfl rfl rfl (bp_cons rfl rfl (bp_cons rfl rfl bp_nil))) (Lw.t rfl (T.bs 11 [.agg [vS b, vI a.2].toArray] (cs := [vS b, vI a.2]) rfl rfl (bsA rfl)) ?_)))))
      rintro _ _ ⟨ey, ez, rfl, rfl, b2, dl⟩
      obtain ⟨dm, dn, hm⟩ := ob hm
      refine Lw.t rfl (T.app1S (α := Clash) (K' := []) (bw.up b2) dl (Clash.rd (K := []) b a.2) rfl rfl dn) ?_
      rintro b3 _ ⟨dp, rfl, dq, dr⟩
      exact Nv b3 rfl ((ag) ⟨dm, b3, dp, rfl, (b2.j dq).w, rfl, dr, hm⟩)
     ·exact sk ((ag) ⟨O, h, bu, rfl, Le.refl _ _, rfl, bw, hm⟩)
  ·refine Cw.exit ?_
   rw [cp] at hm
   refine Cw.seq ?_
   obtain ⟨ds, dt, hm⟩ := jn_e hm
   refine Cw.join 60 67 [67] (fun l w => ∃ a7 a8, CW.w a8 = w ∧ Le [] i a8 ∧ l = [vB a7] ∧ ds a7 = some r) ?_ ?_
   ·rintro _ _ σ ⟨a7, a8, rfl, a9, rfl, hm⟩
    rw [dt] at hm
    have ba := ai.n a9
    refine cn hm (fun hm => ?_) fun hm => ?_
    ·refine sr (mv z rfl (cr hm (fun _ => p87 (k0 := 12) (L.ul ba)) ?_))
     rintro e0 b4 e1 hm du ⟨_, rfl, dv⟩
     have dw := ba.n du
     refine Lw.r rfl (R.bd (zs := [vS ([] : Str), vI 0]) (cs := [vS ([] : Str), vI 4]) [(1, vI 4)] rfl rfl rfl (bp_cons rfl rfl bp_nil)) (Lw.t rfl (T.bsO (α := Clash) (J := []) (xs := [Vm.Clash.mk ([] : Str) 4]) 13 [.agg [vS ([] : Str), vI 4].toArray] (bsL [[vS ([] : Str), vI 4]] (mapa rfl mapn) (OwL.cons (x := (Vm.Clash.mk ([] : Str) 4)) (OwS.atm (K := []) (Clash.rd (K := []) ([] : Str) 4)) OwL.nil)) rfl) ?_)
     rintro b5 _ ⟨e2, rfl, b6, dx⟩
     have dy := dw.n b6
     refine Gv b4 rfl (Nv b5 rfl ?_)
     obtain ⟨e3, dz, b7, d0⟩ := (dv.up b6).toSh
     have d1 := dy.t b7
     obtain ⟨e4, d2, b8, d3⟩ := d0.dyeO 31
     have d4 := d1.t b8
     obtain ⟨e5, d5, b9, d6⟩ := ((dx.up b7).up b8).dyeO 32
     have d7 := d4.t b9
     cases hm
     rw [← d5.trans (d2.trans (dz))]
     exact Cw.ret (ret2 rfl rfl (Res.mk d7 ⟨b4, b5, rfl, (d3.up b9).s, d6.s⟩))
    ·refine sk (sr (mv d rfl (mv h rfl (Gv d rfl (Nv h rfl ?_)))))
     obtain ⟨e6, d8, cb, d9⟩ := (av.up a9).dyeO 31
     have ea := ba.t cb
     obtain ⟨e7, eb, cc, ec⟩ := ((aw.up a9).up cb).dyeO 32
     have ed := ea.t cc
     cases hm
     rw [← eb.trans (d8)]
     exact Cw.ret (ret2 rfl rfl (Res.mk ed ⟨d, h, rfl, (d9.up cc).s, ec.s⟩))
   ·refine rg (mv h rfl (Lw.ln O aw.rd rfl (Lw.eq rfl (mb rfl (bs hm (fun aa hm => ?_) fun aa hm => ?_)))))
    ·refine wak 3 aa (mv d rfl ?_)
     have ee : Rd (α := List Vm.File) i [4, 0] [d] F := Ow.rdSh av
     exact ca hm (fun _ => p51 (K := [0, 4]) (ee.sub (M := [0, 4]) rfl) ((bb.ul ai).sub (M := [0, 4]) rfl)) fun ef eg hm eh => Lw.r rfl (R.not rfl) (Pb aa rfl (nl ((ag) ⟨(!ef), eg, rfl, eh, rfl, hm⟩)))
    ·exact psk 3 aa rfl (Pb aa rfl (nl ((ag) ⟨false, i, rfl, Le.refl _ _, rfl, hm⟩)))
theorem p90 {x0 d x1 f x2 h k0 k1 r} (i : Rd W K [d] x0) (k : Rd W K [f] x1) (x : Rd W K [h] x2) (y : Gl 0 W K) (hm : Vm.impl_JoinOf x0 x1 x2 = some r) : Q1 90 [d, f, h] W [] fun W' v => ∃ a b, v = .tuple [a, b].toArray ∧ Ow (α := List (Sh Vm.File)) W' k0 (0 :: K) [a] r.1 ∧ Ow W' k1 [] [b] r.2 :=
 CallR.adJ (J := []) (fun c => bif Nat.beq c 0 then 0 else bif Nat.beq c 31 then k0 else bif Nat.beq c 32 then k1 else 0) (c90 (i.view _) (k.view _) (x.view _) (y.view _) hm) fun _ _ ⟨a, b, e, z, A⟩ => ⟨a, b, e, z.one1.backNS rfl rfl, A.one1.backN rfl⟩
theorem c59 {x0 e x1 f x2 h r} (i : Rd W0 [0] [e] x0) (k : Rd W0 [0] [f] x1) (x : Rd W0 [0] [h] x2) (y : Gl 0 W0 [0]) (hm : Vm.impl_JoinTree x0 x1 x2 = some r) : Q0 59 [e, f, h] W0 fun Wf v => ∃ z, v = .tuple [z, vB r.2].toArray ∧ OwS (α := List (Sh Vm.File)) Wf LL [0] [z] r.1 := by
 unfold Vm.impl_JoinTree at hm
 refine CallR.of Tryz.func59 rfl rfl rfl rfl (sr (Gv (.slice none 0 0) rfl (Nb rfl (ssr (mv e rfl (mv f rfl (mv h rfl (ca hm (fun _ => p89 i k x y) fun I J hm C => ?_))))))))
 have b := C.o
 refine Lw.r rfl (R.not rfl) (nl (cn hm (fun hm => ?_) fun hm => ?_))
 ·refine sr (Gv (.slice none 0 0) rfl (Nb rfl ?_))
  cases hm
  exact Cw.ret (ret2 rfl rfl (Res.mk b ⟨.slice none 0 0, rfl, (owsNSh [0]).sub rfl rfl⟩))
 ·refine sk (sr (mv e rfl (mv f rfl (mv h rfl (cr hm (fun _ => p90 (k0 := 2) (k1 := 3) (i.ul b) (k.ul b) (x.ul b) (y.ul b)) ?_)))))
  rintro A _ D hm E ⟨a, d, rfl, F, G⟩
  have H : Ow (α := List (Sh Vm.File)) D 2 [0] [a] A.1 := F.sub rfl
  have B := b.n E
  refine mv (.tuple [a, d].toArray) rfl (Lw.r rfl (R.ext (vs := [a, d]) (v := a) rfl rfl) (Lw.r rfl (R.ext (vs := [a, d]) (v := d) rfl rfl) (Gv a rfl (Nv d rfl (ssr (mv d rfl (Lw.ln A.2 G.rd rfl (Lw.gt rfl (nl (cn hm (fun hm => ?_) fun hm => ?_))))))))))
  ·refine sr (Gv (.slice none 0 0) rfl (Nb rfl ?_))
   cases hm
   exact Cw.ret (ret2 rfl rfl (Res.mk B ⟨.slice none 0 0, rfl, (owsNSh [0]).sub rfl rfl⟩))
  ·refine sk (sr (mv a rfl (Gv a rfl (Nb rfl ?_))))
   cases hm
   exact Cw.ret (ret2 rfl rfl (Res.mk B ⟨a, rfl, H.s.sub rfl rfl⟩))
theorem p59 {x0 b x1 d x2 f k0 r} (h : Rd W K [b] x0) (i : Rd W K [d] x1) (k : Rd W K [f] x2) (x : Gl 0 W K) (hm : Vm.impl_JoinTree x0 x1 x2 = some r) : Q1 59 [b, d, f] W [] fun W' v => ∃ a, v = .tuple [a, vB r.2].toArray ∧ Ow (α := List (Sh Vm.File)) W' k0 (0 :: K) [a] r.1 :=
 (c59 (h.view _) (i.view _) (k.view _) (x.view _) hm).ad (fk k0) fun _ _ ⟨a, e, y⟩ => ⟨a, e, y.backS (fk_LL _) rfl⟩
theorem c63 {x0 D E x1 x2 x3 y x4 b r} (U : Ow W0 2 [] [D] x0.Commits) (V : Ow W0 3 [] [E] x0.Heads) (W : Rd W0 [0] [y] x3) (X : Ow W0 4 [] [b] x4) (hm : Vm.impl_Repo_commit x0 x1 x2 x3 x4 = some r) : Q0 63 [.agg [D, E].toArray, vS x1, vS x2, y, b] W0 fun Wf v => ∃ F G, v = .agg [F, G].toArray ∧ OwS Wf [31] [] [F] r.Commits ∧ OwS Wf [32] [] [G] r.Heads := by
 unfold Vm.impl_Repo_commit at hm
 refine CallR.of Tryz.func63 rfl rfl rfl rfl (sr (bo 5 rfl fun g1 W1 i Y => ?_))
 have Z := i.o
 refine al 6 [.slice none 0 0, .slice none 0 0] fun g6 W6 f b6 => ?_
 have a7 := Z.n f
 refine nl (Cw.seq (Cw.draw [] [(0, 0), (1, 1), (2, 0), (3, 0), (4, 0), (5, 2), (6, 0), (7, 2), (8, 3), (9, 0), (10, 3)] mixed (by kernel_rfl) fun a9 e => ?_))
 have H := a7.n e
 have I := (Y.up f).up e
 refine Dfl I rfl rfl rfl (Dv b rfl (Ds rfl (Dv y rfl ?_)))
 obtain ⟨ae, af, hm⟩ := ob hm
 refine Mw.t rfl rfl (T.call rfl (p87 (k0 := 7) (W.ul H) af)) ?_
 rintro k _ ⟨ba, rfl, d, ⟨_, rfl, L⟩⟩
 have ah := H.n d
 have M := (((X.up i).up f).up e).up d
 refine m0 d fun ai => Mw.p rfl rfl (fun _ => R.bd (zs := [.slice none 0 0, vS ([] : Str), .slice none 0 0]) (cs := [b, vS x2, k]) [(0, b), (1, vS x2), (2, k)] rfl rfl rfl (bp_cons M.oc rfl (bp_cons rfl rfl (bp_cons L.oc rfl bp_nil)))) (Mw.t rfl rfl (T.bs 8 [.agg [b, vS x2, k].toArray] (cs := [b, vS x2, k]) rfl rfl (bsA rfl)) ?_)
 rintro _ _ ⟨bb, bc, rfl, rfl, a, aj⟩
 have ak := ah.n a
 refine mc ai a fun be => ?_
 obtain ⟨N, am, hm⟩ := ob hm
 refine Mw.l rfl rfl (T.app1 (α := Commit) (J := [4, 7]) (K' := []) (((((U.up i).up f).up e).up d).up a) aj (Commit.own x4 x2 ae (M.up a).s (L.up a).s) rfl rfl am) ?_
 rintro an _ ⟨bg, rfl, x, z⟩
 have ao := ak.t x
 refine Df rfl (Mw.lu rfl (T.st (j := 0) (v := an) (((I.up d).up a).up x) rfl rfl z.oc rfl rfl) ?_)
 rintro _ _ ⟨bh, rfl, h, O⟩
 have ap := ao.t h
 refine Mw.nil (sr (la O (ms rfl (fl O rfl (Lw.ln N (z.up h).rd rfl (Lw.sub rfl (cr hm (fun _ => p58 (K := [0]) (k0 := 9) (k1 := 10) (c0 := 2) (c1 := 3) (x0 := (Vm.Repo.mk N x0.Heads)) (z.up h) (((((((V.up i).up f).up e).up d).up a).up x).up h) rfl) ?_)))))))
 rintro bi _ bj hm P ⟨aq, ar, rfl, Q, S⟩
 have au := ap.t P
 refine sta ((((((b6.up e).up d).up a).up x).up h).up P) (oc_cons Q.oc (oc_cons S.oc oc_nil)) fun bk A av => ?_
 have aw := au.t A
 refine nl ?_
 obtain ⟨bl, ax, B, ay⟩ := (Q.up A).dyeO 31
 have az := aw.t B
 obtain ⟨bm, a0, C, a1⟩ := ((S.up A).up B).dyeO 32
 have a3 := az.t C
 cases hm
 rw [← a0.trans (ax)]
 exact Cw.ret (retA1 rfl ((av.up B).up C) (Res.mk a3 ⟨aq, ar, rfl, (ay.up C).s, a1.s⟩))
theorem p63 {x0 d f x1 x2 x3 h x4 i k0 k1 c0 c1 c2 r} (k : Ow W c0 [] [d] x0.Commits) (x : Ow W c1 [] [f] x0.Heads) (y : Rd W K [h] x3) (z : Ow W c2 [] [i] x4) (hJ : okJ K [c0, c1, c2] = true) (hm : Vm.impl_Repo_commit x0 x1 x2 x3 x4 = some r) : Q1 63 [.agg [d, f].toArray, vS x1, vS x2, h, i] W [c0, c1, c2] fun W' v => ∃ a b, v = .agg [a, b].toArray ∧ Ow W' k0 [] [a] r.Commits ∧ Ow W' k1 [] [b] r.Heads :=
 CallR.adJ (J := [c0, c1, c2]) (fun c => bif Nat.beq c 0 then 0 else bif Nat.beq c 2 then c0 else bif Nat.beq c 3 then c1 else bif Nat.beq c 4 then c2 else bif Nat.beq c 31 then k0 else bif Nat.beq c 32 then k1 else 0) (c63 (k.viewJ 0 hJ) (x.viewJ 1 hJ) (y.view _) (z.viewJ 2 hJ) hm) fun _ _ ⟨a, b, e, A, B⟩ => ⟨a, b, e, A.one1.backN rfl, B.one1.backN rfl⟩
theorem c62 {x0 D E x1 e f r} (Q : Rd W0 [0] [D, E] x0) (S : Ow W0 2 [] [e] x1.Commits) (T : Ow W0 3 [] [f] x1.Heads) (U : Gl 0 W0 [0]) (hm : Vm.impl_Repo_tried x0 x1 = some r) : Q0 62 [.agg [D, E].toArray, .agg [e, f].toArray] W0 fun Wf v => ∃ F G, v = .tuple [.agg [F, G].toArray, vB r.2].toArray ∧ OwS Wf [31] [] [F] r.1.Commits ∧ OwS Wf [32] [] [G] r.1.Heads := by
 unfold Vm.impl_Repo_tried at hm
 obtain ⟨az, a0, H, V, W⟩ := Repo.split Q
 simp only [List.cons.injEq, and_true, true_and] at H
 obtain ⟨rfl, rfl⟩ := H
 refine CallR.of Tryz.func62 rfl rfl rfl rfl (sr (bo 4 rfl fun g1 W1 h X => ?_))
 have Y := h.o
 refine bo 5 rfl fun g5 W5 b I => ?_
 have Z := Y.n b
 refine al 6 [.slice none 0 0, .slice none 0 0] fun a7 a8 l10 J => ?_
 have L := Z.n l10
 have i := ((S.up h).up b).up l10
 have k := ((T.up h).up b).up l10
 refine Nb rfl (ssr (la (I.up l10) (ca hm (fun _ => p27 (K := [0, 2, 3]) (x0 := (Vm.Repo.mk x1.Commits x1.Heads)) ((Repo.rd (K := [2, 3]) x1.Commits x1.Heads (i.rd.sub (M := [2, 3]) rfl) (k.rd.sub (M := [2, 3]) rfl)).sub (M := [0, 2, 3]) rfl) ((U.ul L).sub (M := [0, 2, 3]) rfl)) fun a9 ba hm a => ?_)))
 have d := L.n a
 refine Lw.r rfl (R.not rfl) (nl (cn hm (fun hm => ?_) fun hm => ?_))
 ·refine sr (la (((X.up b).up l10).up a) (cr hm (fun _ => p56 (k0 := 7) (k1 := 8) (Repo.rd (K := [0]) x0.Commits x0.Heads (V.ul d) (W.ul d))) ?_))
  rintro bb _ bc hm N ⟨aa, ac, rfl, O, P⟩
  have ae := d.n N
  refine sta ((J.up a).up N) (oc_cons O.oc (oc_cons P.oc oc_nil)) fun be x af => ?_
  have ah := ae.t x
  refine Nb rfl ?_
  obtain ⟨bg, ai, y, aj⟩ := (O.up x).dyeO 31
  have ak := ah.t y
  obtain ⟨bh, am, z, an⟩ := ((P.up x).up y).dyeO 32
  have ao := ak.t z
  cases hm
  rw [← am.trans (ai)]
  exact Cw.ret (retA2 rfl ((af.up y).up z) rfl (Res.mk ao ⟨aa, ac, rfl, (aj.up z).s, an.s⟩))
 ·refine sk (sr (la ((I.up l10).up a) (sta (J.up a) (oc_cons (i.up a).oc (oc_cons (k.up a).oc oc_nil)) fun bi A ap => ?_)))
  have aq := d.t A
  refine Nb rfl ?_
  obtain ⟨bj, ar, B, au⟩ := ((i.up a).up A).dyeO 31
  have av := aq.t B
  obtain ⟨bk, aw, C, ax⟩ := (((k.up a).up A).up B).dyeO 32
  have ay := av.t C
  cases hm
  rw [← aw.trans (ar)]
  exact Cw.ret (retA2 rfl ((ap.up B).up C) rfl (Res.mk ay ⟨e, f, rfl, (au.up C).s, ax.s⟩))
theorem p62 {x0 d f x1 h i k0 k1 c0 c1 r} (k : Rd W K [d, f] x0) (x : Ow W c0 [] [h] x1.Commits) (y : Ow W c1 [] [i] x1.Heads) (z : Gl 0 W K) (hJ : okJ K [c0, c1] = true) (hm : Vm.impl_Repo_tried x0 x1 = some r) : Q1 62 [.agg [d, f].toArray, .agg [h, i].toArray] W [c0, c1] fun W' v => ∃ a b, v = .tuple [.agg [a, b].toArray, vB r.2].toArray ∧ Ow W' k0 [] [a] r.1.Commits ∧ Ow W' k1 [] [b] r.1.Heads :=
 CallR.adJ (J := [c0, c1]) (fun c => bif Nat.beq c 0 then 0 else bif Nat.beq c 2 then c0 else bif Nat.beq c 3 then c1 else bif Nat.beq c 31 then k0 else bif Nat.beq c 32 then k1 else 0) (c62 (k.view _) (x.viewJ 0 hJ) (y.viewJ 1 hJ) (z.view _) hm) fun _ _ ⟨a, b, e, A, B⟩ => ⟨a, b, e, A.one1.backN rfl, B.one1.backN rfl⟩
theorem c92 {x0 b x1 e r} (d : Rd W0 [0] [b] x0) (f : Rd W0 [0] [e] x1) (hm : Vm.laws_eqIntS x0 x1 = some r) : Q0 92 [b, e] W0 fun Wf v => v = vB r := by
 unfold Vm.laws_eqIntS at hm
 refine CallR.of Tryz.func92 rfl rfl rfl rfl (sr (Nb rfl (ssr (mv b rfl (Lw.ln x0 d rfl (mv e rfl (Lw.ln x1 f rfl (Lw.ne rfl (nl (cn hm (fun hm => ?_) fun hm => ?_))))))))))
 ·exact sr (Nb rfl (.ret (rt hm (Le.refl _ _))))
 ·refine sk (ssr (Ni rfl (Cw.block ?_)))
  obtain ⟨B, C, hm⟩ := jn_e hm
  refine Cw.loop 11 25 [4, 5] (fun m l w => ∃ h i k, CW.w k = w ∧ Le [] W0 k ∧ l = [vB h, vI i] ∧ Vm.laws_eqIntS_l1 x0 x1 B m h i = some r) _ ⟨false, 0, W0, rfl, Le.refl _ _, rfl, hm⟩ ?_
  rintro (_ | E) _ _ σ ⟨h, i, k, rfl, A, rfl, hm⟩
  ·cases hm
  unfold Vm.laws_eqIntS_l1 at hm
  have x := A.o
  refine ssr (mi rfl (mv b rfl (Lw.ln x0 (d.ul x) rfl (Lw.lt rfl (nl (cn hm (fun hm => ?_) fun hm => ?_))))))
  ·refine sk (Cw.seq (Cw.block (Cw.seq (Cw.draw [] [(0, 0), (1, 0), (2, 0), (3, 1), (4, 0), (5, 0), (6, 0), (7, 1), (8, 0)] mixed (by kernel_rfl) fun D l10 => ?_))))
   have a := x.n l10
   refine Dv b rfl (Di rfl ?_)
   obtain ⟨F, y, hm⟩ := ob hm
   refine Mw.p rfl rfl (fun _ => R.ix (α := Int) (d.ul a) y rfl rfl rfl) (Mw.q rfl rfl (fun _ c => R.ld rfl rfl (cl_cell ((d.ul a).at_ y).1 rfl ((d.ul a).at_ y).int c)) (Dv e rfl (Di rfl ?_)))
   obtain ⟨G, z, hm⟩ := ob hm
   refine Mw.p rfl rfl (fun _ => R.ix (α := Int) (f.ul a) z rfl rfl rfl) (Mw.q rfl rfl (fun _ c => R.ld rfl rfl (cl_cell ((f.ul a).at_ z).1 rfl ((f.ul a).at_ z).int c)) (Mw.p rfl rfl (fun _ => R.ne rfl rfl) (Mw.nil (cn hm (fun hm => ?_) fun hm => ?_))))
   ·exact sr (Nb rfl (.ret (rt hm a)))
   ·exact sk (rg (mi rfl (Lw.add rfl (Ni rfl ((agm) ⟨h, w64 (i + 1), D, rfl, (A.j l10).w, rfl, hm⟩)))))
  ·refine Cw.exit ?_
   rw [C] at hm
   exact sr (Nb rfl (.ret (rt hm x)))
theorem p92 {x0 a x1 b r} (d : Rd W K [a] x0) (f : Rd W K [b] x1) (hm : Vm.laws_eqIntS x0 x1 = some r) : Q1 92 [a, b] W [] fun W' v => v = vB r :=
 (c92 (d.view _) (f.view _) hm).ad (fk 0) fun _ _ e => e
theorem c129 {x0 b x1 e r} (d : Rd W0 [0] [b] x0) (f : Rd W0 [0] [e] x1) (hm : Vm.laws_eqStringS x0 x1 = some r) : Q0 129 [b, e] W0 fun Wf v => v = vB r := by
 unfold Vm.laws_eqStringS at hm
 refine CallR.of Tryz.func129 rfl rfl rfl rfl (sr (Nb rfl (ssr (mv b rfl (Lw.ln x0 d rfl (mv e rfl (Lw.ln x1 f rfl (Lw.ne rfl (nl (cn hm (fun hm => ?_) fun hm => ?_))))))))))
 ·exact sr (Nb rfl (.ret (rt hm (Le.refl _ _))))
 ·refine sk (ssr (Ni rfl (Cw.block ?_)))
  obtain ⟨B, C, hm⟩ := jn_e hm
  refine Cw.loop 11 25 [4, 5] (fun m l w => ∃ h i k, CW.w k = w ∧ Le [] W0 k ∧ l = [vB h, vI i] ∧ Vm.laws_eqStringS_l1 x0 x1 B m h i = some r) _ ⟨false, 0, W0, rfl, Le.refl _ _, rfl, hm⟩ ?_
  rintro (_ | E) _ _ σ ⟨h, i, k, rfl, A, rfl, hm⟩
  ·cases hm
  unfold Vm.laws_eqStringS_l1 at hm
  have x := A.o
  refine ssr (mi rfl (mv b rfl (Lw.ln x0 (d.ul x) rfl (Lw.lt rfl (nl (cn hm (fun hm => ?_) fun hm => ?_))))))
  ·refine sk (Cw.seq (Cw.block (Cw.seq (Cw.draw [] [(0, 0), (1, 0), (2, 0), (3, 1), (4, 0), (5, 0), (6, 0), (7, 1), (8, 0)] mixed (by kernel_rfl) fun D l10 => ?_))))
   have a := x.n l10
   refine Dv b rfl (Di rfl ?_)
   obtain ⟨F, y, hm⟩ := ob hm
   refine Mw.p rfl rfl (fun _ => R.ix (α := Str) (d.ul a) y rfl rfl rfl) (Mw.q rfl rfl (fun _ c => R.ld rfl rfl (cl_cell ((d.ul a).at_ y).1 rfl ((d.ul a).at_ y).str c)) (Dv e rfl (Di rfl ?_)))
   obtain ⟨G, z, hm⟩ := ob hm
   refine Mw.p rfl rfl (fun _ => R.ix (α := Str) (f.ul a) z rfl rfl rfl) (Mw.q rfl rfl (fun _ c => R.ld rfl rfl (cl_cell ((f.ul a).at_ z).1 rfl ((f.ul a).at_ z).str c)) (Mw.p rfl rfl (fun _ => R.sne rfl rfl) (Mw.nil (cn hm (fun hm => ?_) fun hm => ?_))))
   ·exact sr (Nb rfl (.ret (rt hm a)))
   ·exact sk (rg (mi rfl (Lw.add rfl (Ni rfl ((agm) ⟨h, w64 (i + 1), D, rfl, (A.j l10).w, rfl, hm⟩)))))
  ·refine Cw.exit ?_
   rw [C] at hm
   exact sr (Nb rfl (.ret (rt hm x)))
theorem p129 {x0 a x1 b r} (d : Rd W K [a] x0) (f : Rd W K [b] x1) (hm : Vm.laws_eqStringS x0 x1 = some r) : Q1 129 [a, b] W [] fun W' v => v = vB r :=
 (c129 (d.view _) (f.view _) hm).ad (fk 0) fun _ _ e => e
theorem c112 {x0 d x1 e r} (y : Rd W0 [0] [vS x0.Path, d] x0) (z : Rd W0 [0] [vS x1.Path, e] x1) (hm : Vm.laws_eqFile x0 x1 = some r) : Q0 112 [.agg [vS x0.Path, d].toArray, .agg [vS x1.Path, e].toArray] W0 fun Wf v => v = vB r := by
 unfold Vm.laws_eqFile at hm
 obtain ⟨F, f, A⟩ := File.split y
 simp only [List.cons.injEq, and_true, true_and] at f
 obtain rfl := f
 obtain ⟨G, h, B⟩ := File.split z
 simp only [List.cons.injEq, and_true, true_and] at h
 obtain rfl := h
 refine CallR.of Tryz.func112 rfl rfl rfl rfl (sr (bo 2 rfl fun H I C i => ?_))
 have D := C.o
 refine bo 3 rfl fun J K b k => ?_
 have a := D.n b
 refine Nb rfl (ssr (fl (i.up b) rfl (fl k rfl (Lw.sne rfl (nl (cn hm (fun hm => ?_) fun hm => ?_))))))
 ·exact sr (Nb rfl (.ret (rt hm a)))
 ·refine sk (ssr (fl (i.up b) rfl (fl k rfl (ca hm (fun _ => p129 (A.ul a) (B.ul a)) fun L M hm E => ?_))))
  have x := a.n E
  refine Lw.r rfl (R.not rfl) (nl (cn hm (fun hm => ?_) fun hm => ?_))
  ·exact sr (Nb rfl (.ret (rt hm x)))
  ·exact sk (sr (Nb rfl (.ret (rt hm x))))
theorem p112 {x0 a x1 b r} (d : Rd W K [vS x0.Path, a] x0) (f : Rd W K [vS x1.Path, b] x1) (hm : Vm.laws_eqFile x0 x1 = some r) : Q1 112 [.agg [vS x0.Path, a].toArray, .agg [vS x1.Path, b].toArray] W [] fun W' v => v = vB r :=
 (c112 (d.view _) (f.view _) hm).ad (fk 0) fun _ _ e => e
theorem c93 {x0 b x1 e r} (d : Rd W0 [0] [b] x0) (f : Rd W0 [0] [e] x1) (hm : Vm.laws_eqFileS x0 x1 = some r) : Q0 93 [b, e] W0 fun Wf v => v = vB r := by
 unfold Vm.laws_eqFileS at hm
 refine CallR.of Tryz.func93 rfl rfl rfl rfl (sr (Nb rfl (ssr (mv b rfl (Lw.ln x0 d rfl (mv e rfl (Lw.ln x1 f rfl (Lw.ne rfl (nl (cn hm (fun hm => ?_) fun hm => ?_))))))))))
 ·exact sr (Nb rfl (.ret (rt hm (Le.refl _ _))))
 ·refine sk (ssr (Ni rfl (Cw.block ?_)))
  obtain ⟨E, F, hm⟩ := jn_e hm
  refine Cw.loop 11 26 [4, 5] (fun m l w => ∃ h i k, CW.w k = w ∧ Le [] W0 k ∧ l = [vB h, vI i] ∧ Vm.laws_eqFileS_l1 x0 x1 E m h i = some r) _ ⟨false, 0, W0, rfl, Le.refl _ _, rfl, hm⟩ ?_
  rintro (_ | J) _ _ σ ⟨h, i, k, rfl, A, rfl, hm⟩
  ·cases hm
  unfold Vm.laws_eqFileS_l1 at hm
  have x := A.o
  refine ssr (mi rfl (mv b rfl (Lw.ln x0 (d.ul x) rfl (Lw.lt rfl (nl (cn hm (fun hm => ?_) fun hm => ?_))))))
  ·refine sk (Cw.seq (Cw.block (Cw.seq (Cw.draw [] [(0, 0), (1, 0), (2, 0), (3, 1), (4, 0), (5, 0), (6, 0), (7, 1), (8, 3), (9, 0)] mixed (by kernel_rfl) fun L l10 => ?_))))
   have a := x.n l10
   refine Dv b rfl (Di rfl ?_)
   obtain ⟨B, y, hm⟩ := ob hm
   refine Mw.p rfl rfl (fun _ => R.ix (α := File) (d.ul a) y rfl rfl rfl) ?_
   obtain ⟨x15, c16, _, r17⟩ := ((d.ul a).at_ y).cells
   obtain ⟨M, rfl, r19⟩ := File.split r17
   refine Mw.q rfl rfl (fun _ c => R.lda (cl_cells ((d.ul a).at_ y).1 rfl c16 c) rfl rfl) (Dv e rfl (Di rfl ?_))
   obtain ⟨C, z, hm⟩ := ob hm
   refine Mw.p rfl rfl (fun _ => R.ix (α := File) (f.ul a) z rfl rfl rfl) ?_
   obtain ⟨x23, c24, _, r25⟩ := ((f.ul a).at_ z).cells
   obtain ⟨N, rfl, r27⟩ := File.split r25
   refine Mw.q rfl rfl (fun _ c => R.lda (cl_cells ((f.ul a).at_ z).1 rfl c24 c) rfl rfl) ?_
   obtain ⟨O, G, hm⟩ := ob hm
   refine Mw.l rfl rfl (T.call rfl (p112  (File.rd (K := [0]) B.Path B.Text r19) (File.rd (K := [0]) C.Path C.Text r27) G)) ?_
   rintro _ _ ⟨H, rfl, D, rfl⟩
   have I := a.n D
   refine Mw.p rfl rfl (fun _ => R.not rfl) (Mw.nil (cn hm (fun hm => ?_) fun hm => ?_))
   ·exact sr (Nb rfl (.ret (rt hm I)))
   ·exact sk (rg (mi rfl (Lw.add rfl (Ni rfl ((agm) ⟨h, w64 (i + 1), H, rfl, ((A.j l10).j D).w, rfl, hm⟩)))))
  ·refine Cw.exit ?_
   rw [F] at hm
   exact sr (Nb rfl (.ret (rt hm x)))
theorem p93 {x0 a x1 b r} (d : Rd W K [a] x0) (f : Rd W K [b] x1) (hm : Vm.laws_eqFileS x0 x1 = some r) : Q1 93 [a, b] W [] fun W' v => v = vB r :=
 (c93 (d.view _) (f.view _) hm).ad (fk 0) fun _ _ e => e
end Go.Sx
