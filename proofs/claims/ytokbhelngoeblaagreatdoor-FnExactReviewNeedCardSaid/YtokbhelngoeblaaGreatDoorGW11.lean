/- Walks: each function answers as its model, printed by a program of ours. Conditions: the arguments read as they are given. -/
import Derived.Test.YtokbhelngoeblaaGreatDoorGTs
import Derived.Test.YtokbhelngoeblaaGreatDoorGM2
import Derived.Test.YtokbhelngoeblaaGreatDoorGW0
import Derived.Test.YtokbhelngoeblaaGreatDoorGW1
import Derived.Test.YtokbhelngoeblaaGreatDoorGW10
namespace Go.Sx
open Go Go.Proofs Go.Vm Rp
set_option linter.unusedVariables false
set_option linter.unusedSimpArgs false
variable {W W0 : CW} {K : List Nat}
theorem c205 {x0 I x1 d x2 J x3 C r} (h0 : Rd W0 [0] [I] x0) (b : Rd W0 [0] [d] x1) (h2 : Rd W0 [0] [J] x2) (D : Rd W0 [0] [C] x3) (hm : Vm.zfA x0 x1 x2 x3 = some r) : Q0 205 [I, d, J, C] W0 fun Wf v => v = vS r := by
 unfold Vm.zfA at hm
 refine zaj.of Tryz.func205 rfl rfl rfl rfl (sr (Ns rfl (ssr (Ni rfl (Cw.block ?_)))))
 obtain ⟨K8, an, hm⟩ := zaS hm
 refine Cw.loop 14 68 [8, 9, 10, 11, 12, 13] (fun m l w => ∃ E f S T U V K, CW.w K = w ∧ Le [] W0 K ∧ l = [vS E, vI f, S, T, U, V] ∧ Vm.zcQ x0 x1 x2 x3 K8 m E f = some r) _ ⟨([] : Str), 0, undef, undef, undef, undef, W0, rfl, Le.refl _ _, rfl, hm⟩ ?_
 rintro (_ | m9) _ _ σ ⟨E, f, S, T, U, V, K, rfl, W, rfl, hm⟩
 ·cases hm
 unfold Vm.zcQ at hm
 have h := W.o
 refine ssr (mi rfl (mv d rfl (Lw.ln x1 (b.ul h) rfl (Lw.lt rfl (nl (cn hm (fun hm => ?_) fun hm => ?_))))))
 ·refine sk (Cw.seq (Cw.block (sr (mv I rfl (mv d rfl (mi rfl ?_))))))
  obtain ⟨a0, X, hm⟩ := ob hm
  refine Lw.r rfl (R.ix (α := File) (b.ul h) X rfl rfl rfl) (Lw.fa rfl (Lw.r rfl (R.ld rfl rfl (File.at0 ((b.ul h).at_ X)).str) (cr hm (fun _ => p196 (h0.ul h)) ?_)))
  rintro z _ Y hm Z ⟨i, rfl, ao⟩
  have a1 := ao.sub (M := [0]) rfl
  have ap := h.n Z
  refine mv (.tuple [i, vB z.2].toArray) rfl (Lw.r rfl (R.ext (vs := [i, vB z.2]) (v := i) rfl rfl) (Lw.r rfl (R.ext (vs := [i, vB z.2]) (v := vB z.2) rfl rfl) (Gv i rfl (Nb rfl (sr (Nb rfl (ssr (Ni rfl (Cw.block ?_)))))))))
  obtain ⟨aq, ar, hm⟩ := zaS hm
  refine Cw.loop 30 49 [12, 13] (fun m l w => ∃ F e k, CW.w k = w ∧ Le [] Y k ∧ l = [vB F, vI e] ∧ Vm.zbD x1 x3 f aq m F e = some r) _ ⟨true, 0, Y, rfl, Le.refl _ _, rfl, hm⟩ ?_
  rintro (_ | a2) _ _ σ ⟨F, e, k, rfl, G, rfl, hm⟩
  ·cases hm
  unfold Vm.zbD at hm
  have x := ap.n G
  refine ssr (mi rfl (mv C rfl (Lw.ln x3 (D.ul x) rfl (Lw.lt rfl (nl (cn hm (fun hm => ?_) fun hm => ?_))))))
  ·refine sk (Cw.seq (Cw.block (Cw.draw [] [(0, 0), (1, 0), (2, 0), (3, 0), (4, 0), (5, 0), (6, 1), (7, 0), (8, 0), (9, 0), (10, 0), (11, 1), (12, 0), (13, 0), (14, 0)] mixed (by kernel_rfl) fun aa L => ?_)))
   have y := x.n L
   refine Db rfl (Db rfl (bs hm (fun a hm => ?_) fun a hm => ?_))
   ·refine Wp a rfl (fun _ => R.mv (v := C) rfl) (Wp a rfl (fun _ => R.mv (v := vI e) rfl) ?_)
    obtain ⟨ac, N, hm⟩ := ob hm
    refine Wp a rfl (fun _ => R.ix (α := Change) (D.ul y) N rfl rfl rfl) (Wp a rfl (fun _ => R.fa rfl) (Wq a rfl (fun _ c => R.ld rfl rfl (zah (Change.at2 ((D.ul y).at_ N)).1 rfl (Change.at2 ((D.ul y).at_ N)).str c)) (Wp a rfl (fun _ => R.mv (v := d) rfl) (Wp a rfl (fun _ => R.mv (v := vI f) rfl) ?_))))
    obtain ⟨ae, O, hm⟩ := ob hm
    exact Wp a rfl (fun _ => R.ix (α := File) (b.ul y) O rfl rfl rfl) (Wp a rfl (fun _ => R.fa rfl) (Wq a rfl (fun _ c => R.ld rfl rfl (zah (File.at0 ((b.ul y).at_ O)).1 rfl (File.at0 ((b.ul y).at_ O)).str c)) (Wp a rfl (fun _ => R.sne rfl rfl) (Mw.p rfl rfl (fun _ => R.pk a rfl (v := vB (ac.To != ae.Path)) rfl) (Hb rfl (Mw.nil (rg (mi rfl (Lw.add rfl (Ni rfl ((agm) ⟨(ac.To != ae.Path), w64 (e + 1), aa, rfl, (G.j L).w, rfl, hm⟩)))))))))))
   ·exact dps 11 a rfl (Mw.p rfl rfl (fun _ => R.pk a rfl (v := vB false) rfl) (Hb rfl (Mw.nil (rg (mi rfl (Lw.add rfl (Ni rfl ((agm) ⟨false, w64 (e + 1), aa, rfl, (G.j L).w, rfl, hm⟩))))))))
  ·refine Cw.exit ?_
   rw [ar] at hm
   obtain ⟨au, av, hm⟩ := zaS hm
   refine Cw.join 50 63 [63] (fun l w => ∃ P H, CW.w H = w ∧ Le [] k H ∧ l = [vB P] ∧ au P = some r) ?_ ?_
   ·rintro _ _ σ ⟨P, H, rfl, af, rfl, hm⟩
    rw [av] at hm
    have Q := x.n af
    refine cn hm (fun hm => ?_) fun hm => ?_
    ·refine sr (mv d rfl (mi rfl ?_))
     obtain ⟨a3, ah, hm⟩ := ob hm
     exact Lw.r rfl (R.ix (α := File) (b.ul Q) ah rfl rfl rfl) (Lw.fa rfl (Lw.r rfl (R.ld rfl rfl (File.at0 ((b.ul Q).at_ ah)).str) (Ns rfl (.ret (rt hm Q)))))
    ·exact sk (rg (mi rfl (Lw.add rfl (Ni rfl ((agm) ⟨E, w64 (f + 1), i, vB z.2, vB F, vI e, H, rfl, (((W.j Z).j G).j af).w, rfl, hm⟩)))))
   ·refine rg (mb rfl (Lw.r rfl (R.not rfl) (mb rfl (bs hm (fun A hm => ?_) fun A hm => ?_))))
    ·refine wak 1 A (mb rfl (Pb A rfl (mb rfl (bs hm (fun B hm => ?_) fun B hm => ?_))))
     ·refine wak 7 B (mv d rfl (mi rfl ?_))
      obtain ⟨a4, ai, hm⟩ := ob hm
      refine Lw.r rfl (R.ix (α := File) (b.ul x) ai rfl rfl rfl) (Lw.fa rfl ?_)
      obtain ⟨a5, c52, r53⟩ := (File.at1 ((b.ul x).at_ ai)).cell rfl
      exact Lw.r rfl (R.ld rfl rfl c52) (mv J rfl (ca hm (fun _ => p203 r53 (h2.ul x)) fun aw ax hm ay => Pb B rfl (nl ((ag) ⟨aw, ax, rfl, ay, rfl, hm⟩))))
     ·exact psk 7 B rfl (Pb B rfl (nl ((ag) ⟨false, k, rfl, Le.refl _ _, rfl, hm⟩)))
    ·exact psk 1 A rfl (Pb A rfl (mb rfl (psk 7 rfl rfl (Pb rfl rfl (nl ((ag) ⟨false, k, rfl, Le.refl _ _, rfl, hm⟩))))))
 ·refine Cw.exit ?_
  rw [an] at hm
  exact sr (Ns rfl (.ret (rt hm h)))
theorem p205 {x0 a x1 b x2 d x3 f r} (h : Rd W K [a] x0) (i : Rd W K [b] x1) (k : Rd W K [d] x2) (x : Rd W K [f] x3) (hm : Vm.zfA x0 x1 x2 x3 = some r) : Q1 205 [a, b, d, f] W [] fun W' v => v = vS r :=
 (c205 (h.view _) (i.view _) (k.view _) (x.view _) hm).ad (fk 0) fun _ _ e => e
theorem c182 {x0 b x1 f r} (d : Rd W0 [0] [b] x0) (h : Rd W0 [0] [f] x1) (hm : Vm.zhG x0 x1 = some r) : Q0 182 [b, f] W0 fun Wf v => ∃ u0, v = u0 ∧ OwS Wf LL [] [u0] r := by
 unfold Vm.zhG at hm
 refine zaj.of Tryz.func182 rfl rfl rfl rfl (sr (Nv (.slice none 0 0) rfl (sr (Lw.t rfl (T.lit0 (α := Change) 2 []) ?_))))
 rintro v1 _ ⟨W1, rfl, l1, o1⟩
 have a2 := l1.o
 refine Nv v1 rfl (ssr (Ni rfl (Cw.block ?_)))
 obtain ⟨dj, dk, hm⟩ := zaS hm
 refine Cw.loop 17 97 [5, 6, 7, 8, 9] (fun m l w => ∃ k y6 y j7 j8 j9 z, CW.w z = w ∧ Le [2, 4, 6] W1 z ∧ l = [y, vI y6, j7, j8, j9] ∧ Ow z 2 [] [y] k ∧ Vm.ze5 x0 x1 dj m k y6 = some r) _ ⟨([] : List Change), 0, v1, undef, undef, undef, W1, rfl, Le.refl _ _, rfl, o1, hm⟩ ?_
 rintro (_ | fi) _ _ σ ⟨k, y6, y, j7, j8, j9, z, rfl, l10, rfl, o5, hm⟩
 ·cases hm
 unfold Vm.ze5 at hm
 have E := a2.t l10
 refine ssr (mi rfl (mv b rfl (Lw.ln x0 (d.ul E) rfl (Lw.lt rfl (nl (cn hm (fun hm => ?_) fun hm => ?_))))))
 ·refine sk ?_
  obtain ⟨dl, dm, hm⟩ := zaS hm
  refine Cw.join 23 97 [5, 7, 8, 9] (fun l w => ∃ an ao be bg bh S, CW.w S = w ∧ Le [2, 4, 6] z S ∧ l = [ao, be, bg, bh] ∧ Ow S 2 [] [ao] an ∧ dl an = some r) ?_ ?_
  ·rintro _ _ σ ⟨an, ao, be, bg, bh, S, rfl, dn, rfl, dp, hm⟩
   rw [dm] at hm
   exact rg (mi rfl (Lw.add rfl (Ni rfl ((agm) ⟨an, w64 (y6 + 1), ao, be, bg, bh, S, rfl, (l10.j dn).w, rfl, dp, hm⟩))))
  ·refine Cw.block (sr (mv f rfl (mv b rfl (mi rfl ?_))))
   obtain ⟨fj, ch, hm⟩ := ob hm
   refine Lw.r rfl (R.ix (α := File) (d.ul E) ch rfl rfl rfl) (Lw.fa rfl (Lw.r rfl (R.ld rfl rfl (File.at0 ((d.ul E).at_ ch)).str) (cr hm (fun _ => p196 (h.ul E)) ?_)))
   rintro A _ bi hm U ⟨e, rfl, dq⟩
   have ci := dq.sub (M := [0]) rfl
   have ap := E.n U
   refine mv (.tuple [e, vB A.2].toArray) rfl (Lw.r rfl (R.ext (vs := [e, vB A.2]) (v := e) rfl rfl) (Lw.r rfl (R.ext (vs := [e, vB A.2]) (v := vB A.2) rfl rfl) (Gv e rfl (Nb rfl ?_))))
   obtain ⟨dr, ds, hm⟩ := zaS hm
   refine Cw.join 33 59 [5] (fun l w => ∃ aq B V, CW.w V = w ∧ Le [2, 6] bi V ∧ l = [B] ∧ Ow V 2 [] [B] aq ∧ dr aq = some r) ?_ ?_
   ·rintro _ _ σ ⟨aq, B, V, rfl, ar, rfl, au, hm⟩
    rw [ds] at hm
    have W := ap.t ar
    refine ssr (mb rfl (nl (cn hm (fun hm => ?_) fun hm => ?_)))
    ·exact Cw.exit ((ag) ⟨aq, B, e, vB A.2, j9, V, rfl, (U.j ar).w, rfl, au, hm⟩)
    ·refine sk (sr (mv b rfl (mv f rfl (mv b rfl (mi rfl ?_)))))
     obtain ⟨fm, cj, hm⟩ := ob hm
     refine Lw.r rfl (R.ix (α := File) (d.ul W) cj rfl rfl rfl) (Lw.fa rfl ?_)
     obtain ⟨fn, c45, r46⟩ := (File.at1 ((d.ul W).at_ cj)).cell rfl
     refine Lw.r rfl (R.ld rfl rfl c45) (mv B rfl (ca hm (fun _ => p205 (K := [0, 2]) ((d.ul W).sub (M := [0, 2]) rfl) ((h.ul W).sub (M := [0, 2]) rfl) (r46.sub (M := [0, 2]) rfl) (au.rd.sub (M := [0, 2]) rfl)) fun C fo hm X => ?_))
     have bj := W.n X
     refine Ns rfl (sr (ms rfl (Lw.sne rfl (nl (cn hm (fun hm => ?_) fun hm => ?_)))))
     ·refine rg (mv B rfl (mv b rfl (mi rfl ?_)))
      obtain ⟨Y, ck, hm⟩ := ob hm
      refine Lw.r rfl (R.ix (α := File) (d.ul bj) ck rfl rfl rfl) (Lw.fa rfl (Lw.r rfl (R.ld rfl rfl (File.at0 ((d.ul bj).at_ ck)).str) (ms rfl (Lw.r rfl (R.bd (zs := [vI 0, vS ([] : Str), vS ([] : Str), .slice none 0 0, .slice none 0 0]) (cs := [vI 4, vS Y.Path, vS C, .slice none 0 0, .slice none 0 0]) [(0, vI 4), (1, vS Y.Path), (2, vS C)] rfl rfl rfl (zaD rfl rfl (zaD rfl rfl (zaD rfl rfl zdN)))) (Lw.t rfl (T.bs 3 [.agg [vI 4, vS Y.Path, vS C, .slice none 0 0, .slice none 0 0].toArray] (cs := [vI 4, vS Y.Path, vS C, .slice none 0 0, .slice none 0 0]) rfl rfl (bsA rfl)) ?_)))))
      rintro _ _ ⟨fp, fq, rfl, rfl, cl, dt⟩
      obtain ⟨du, dv, hm⟩ := ob hm
      refine Lw.t rfl (T.app1 (α := Change) (J := []) (K' := []) ((au.up X).up cl) dt (Change.own 4 Y.Path C ([] : List Str) ([] : List Hunk) (zm5 []) (zm5 [])) rfl rfl dv) ?_
      rintro cm _ ⟨dw, rfl, dx, dy⟩
      exact Nv cm rfl ((ag) ⟨du, cm, e, vB A.2, vS C, dw, rfl, ((((U.j ar).j X).j cl).j dx).w, rfl, dy, hm⟩)
     ·refine Cw.draw [2, 4] [(0, 0), (1, 0), (2, 0), (3, 0), (4, 0), (5, 1), (7, 0), (8, 0), (9, 0), (10, 0), (11, 1), (6, 2), (12, 2), (13, 0), (14, 2), (15, 2), (16, 0)] mixed (by kernel_rfl) fun fr bk => ?_
      have dz := bj.n bk
      refine Dv B rfl (Dv b rfl (Di rfl ?_))
      obtain ⟨Z, bl, hm⟩ := ob hm
      have F := d.ul dz
      refine Mw.p rfl rfl (fun _ => R.ix (α := File) F bl rfl rfl rfl) (Df rfl (Mw.q rfl rfl (fun _ c => R.ld rfl rfl (zah (File.at0 (F.at_ bl)).1 rfl (File.at0 (F.at_ bl)).str c)) (Dv b rfl (Di rfl ?_))))
      obtain ⟨fs, bm, hm⟩ := ob hm
      refine Mw.p rfl rfl (fun _ => R.ix (α := File) F bm rfl rfl rfl) (Df rfl ?_)
      obtain ⟨ft, c74, r75⟩ := (File.at1 (F.at_ bm)).cell rfl
      refine Mw.q rfl rfl (fun _ c => R.ld rfl rfl (zah (File.at1 (F.at_ bm)).1 rfl c74 c)) (Mw.t rfl rfl (T.lit0 (α := Str) 4 []) ?_)
      rintro fu _ ⟨fv, rfl, av, d0⟩
      have d1 := av.o
      refine m0 av fun d2 => ?_
      obtain ⟨d3, d4, hm⟩ := ob hm
      refine Mw.t rfl rfl (T.appP (α := Str) d0 (r75.ul d1) rfl rfl d4) ?_
      rintro aw _ ⟨fw, rfl, bn, co⟩
      refine mc d2 bn fun d5 => Mw.p rfl rfl (fun _ => R.bd (zs := [vI 0, vS ([] : Str), vS ([] : Str), .slice none 0 0, .slice none 0 0]) (cs := [vI 2, vS Z.Path, vS ([] : Str), aw, .slice none 0 0]) [(0, vI 2), (1, vS Z.Path), (3, aw)] rfl rfl rfl (zaD rfl rfl (zaD rfl rfl (zaD co.oc rfl zdN)))) (Mw.t rfl rfl (T.bs 5 [.agg [vI 2, vS Z.Path, vS ([] : Str), aw, .slice none 0 0].toArray] (cs := [vI 2, vS Z.Path, vS ([] : Str), aw, .slice none 0 0]) rfl rfl (bsA rfl)) ?_)
      rintro _ _ ⟨fx, fy, rfl, rfl, ax, d6⟩
      refine mc d5 ax fun d7 => ?_
      obtain ⟨d8, d9, hm⟩ := ob hm
      refine Mw.t rfl rfl (T.app1 (α := Change) (J := [4]) (K' := []) (((((au.up X).up bk).up av).up bn).up ax) d6 (Change.own 2 Z.Path ([] : Str) d3 ([] : List Hunk) (co.up ax).s (zm5 [])) rfl rfl d9) ?_
      rintro cp _ ⟨ea, rfl, cq, eb⟩
      exact mc d7 cq fun fz => Hv cp rfl (Mw.nil ((ag) ⟨d8, cp, e, vB A.2, vS C, ea, rfl, (((((((U.j ar).j X).j bk).j av).j bn).j ax).j cq).w, rfl, eb, hm⟩))
   ·obtain ⟨ec, ed, hm⟩ := zaS hm
    refine Cw.join 33 43 [43] (fun l w => ∃ bp ay, CW.w ay = w ∧ Le [] bi ay ∧ l = [vB bp] ∧ ec bp = some r) ?_ ?_
    ·rintro _ _ σ ⟨bp, ay, rfl, az, rfl, hm⟩
     rw [ed] at hm
     have ct := az.o
     have cu := (o5.up U).up az
     refine cn hm (fun hm => ?_) fun hm => ?_
     ·refine Cw.draw [2, 6] [(0, 0), (1, 0), (2, 0), (3, 0), (4, 0), (5, 1), (6, 0), (7, 0), (8, 0), (9, 0), (10, 1), (11, 0), (12, 2), (13, 0), (14, 2), (15, 2), (16, 0)] mixed (by kernel_rfl) fun f0 bq => ?_
      have cv := bq.o
      refine Dv y rfl (Dv b rfl (Di rfl ?_))
      obtain ⟨aa, br, hm⟩ := ob hm
      have G := d.ul ((ap.trans ct).trans cv)
      refine Mw.p rfl rfl (fun _ => R.ix (α := File) G br rfl rfl rfl) (Df rfl (Mw.q rfl rfl (fun _ c => R.ld rfl rfl (zah (File.at0 (G.at_ br)).1 rfl (File.at0 (G.at_ br)).str c)) (Dv b rfl (Di rfl ?_))))
      obtain ⟨f1, bu, hm⟩ := ob hm
      refine Mw.p rfl rfl (fun _ => R.ix (α := File) G bu rfl rfl rfl) (Df rfl ?_)
      obtain ⟨f2, c109, r110⟩ := (File.at1 (G.at_ bu)).cell rfl
      refine Mw.q rfl rfl (fun _ c => R.ld rfl rfl (zah (File.at1 (G.at_ bu)).1 rfl c109 c)) (Dv e rfl (Dc hm (Le.refl _ _) (fun _ => p204 (k0 := 6) r110 (ci.ul (ct.trans cv))) rfl ?_))
      rintro ee a0 f3 hm cw ⟨_, rfl, cx⟩ ef
      refine Mw.p rfl rfl (fun _ => R.bd (zs := [vI 0, vS ([] : Str), vS ([] : Str), .slice none 0 0, .slice none 0 0]) (cs := [vI 3, vS aa.Path, vS ([] : Str), .slice none 0 0, a0]) [(0, vI 3), (1, vS aa.Path), (4, a0)] rfl rfl rfl (zaD rfl rfl (zaD rfl rfl (zaD cx.oc rfl zdN)))) (Mw.t rfl rfl (T.bs 7 [.agg [vI 3, vS aa.Path, vS ([] : Str), .slice none 0 0, a0].toArray] (cs := [vI 3, vS aa.Path, vS ([] : Str), .slice none 0 0, a0]) rfl rfl (bsA rfl)) ?_)
      rintro _ _ ⟨f4, f5, rfl, rfl, a1, eg⟩
      refine mc ef a1 fun eh => ?_
      obtain ⟨ei, ej, hm⟩ := ob hm
      refine Mw.t rfl rfl (T.app1 (α := Change) (J := [6]) (K' := []) (((cu.up bq).up cw).up a1) eg (Change.own 3 aa.Path ([] : Str) ([] : List Str) ee (zm5 []) (cx.up a1).s) rfl rfl ej) ?_
      rintro cy _ ⟨ek, rfl, cz, el⟩
      exact mc eh cz fun f6 => Hv cy rfl (Mw.nil ((ag) ⟨ei, cy, ek, rfl, ((((az.j bq).j cw).j a1).j cz).w, rfl, el, hm⟩))
     ·exact sk ((ag) ⟨k, y, ay, rfl, az.w, rfl, cu, hm⟩)
    ·refine rg (mb rfl (mb rfl (bs hm (fun ac hm => ?_) fun ac hm => ?_)))
     ·refine wak 8 ac (mv e rfl (mv b rfl (mi rfl ?_)))
      obtain ⟨f7, c0, hm⟩ := ob hm
      refine Lw.r rfl (R.ix (α := File) (d.ul ap) c0 rfl rfl rfl) (Lw.fa rfl ?_)
      obtain ⟨f8, c131, r132⟩ := (File.at1 ((d.ul ap).at_ c0)).cell rfl
      exact Lw.r rfl (R.ld rfl rfl c131) (ca hm (fun _ => p203 ci r132) fun em en hm eo => Lw.r rfl (R.not rfl) (Pb ac rfl (nl ((ag) ⟨(!em), en, rfl, eo, rfl, hm⟩))))
     ·exact psk 8 ac rfl (Pb ac rfl (nl ((ag) ⟨false, bi, rfl, Le.refl _ _, rfl, hm⟩)))
 ·refine Cw.exit ?_
  rw [dk] at hm
  refine sr (mv y rfl (Lw.ln k o5.rd rfl (Ni rfl (ssr (Ni rfl (Cw.block ?_))))))
  obtain ⟨ep, er, hm⟩ := zaS hm
  refine Cw.loop 100 156 [5, 11, 12, 13, 14, 15] (fun m l w => ∃ ae H i c1 c2 c3 c4 af, CW.w af = w ∧ Le [2, 8] z af ∧ l = [i, vI H, c1, c2, c3, c4] ∧ Ow af 2 [] [i] ae ∧ Vm.zcA x0 x1 k ep m ae H = some r) _ ⟨k, 0, y, undef, undef, undef, undef, z, rfl, Le.refl _ _, rfl, o5, hm⟩ ?_
  rintro (_ | f9) _ _ σ ⟨ae, H, i, c1, c2, c3, c4, af, rfl, c5, rfl, c6, hm⟩
  ·cases hm
  unfold Vm.zcA at hm
  have I := E.t c5
  refine ssr (mi rfl (mv f rfl (Lw.ln x1 (h.ul I) rfl (Lw.lt rfl (nl (cn hm (fun hm => ?_) fun hm => ?_))))))
  ·refine sk ?_
   obtain ⟨es, et, hm⟩ := zaS hm
   refine Cw.join 106 156 [5, 12, 13, 14, 15] (fun l w => ∃ a3 a4 bv bw bz b0 ah, CW.w ah = w ∧ Le [2, 8] af ah ∧ l = [a4, bv, bw, bz, b0] ∧ Ow ah 2 [] [a4] a3 ∧ es a3 = some r) ?_ ?_
   ·rintro _ _ σ ⟨a3, a4, bv, bw, bz, b0, ah, rfl, eu, rfl, ew, hm⟩
    rw [et] at hm
    exact rg (mi rfl (Lw.add rfl (Ni rfl ((agm) ⟨a3, w64 (H + 1), a4, bv, bw, bz, b0, ah, rfl, (c5.j eu).w, rfl, ew, hm⟩))))
   ·refine Cw.block (sr (mv b rfl (mv f rfl (mi rfl ?_))))
    obtain ⟨ga, c7, hm⟩ := ob hm
    refine Lw.r rfl (R.ix (α := File) (h.ul I) c7 rfl rfl rfl) (Lw.fa rfl (Lw.r rfl (R.ld rfl rfl (File.at0 ((h.ul I).at_ c7)).str) (cr hm (fun _ => p196 (d.ul I)) ?_)))
    rintro L _ c8 hm a5 ⟨D, rfl, ex⟩
    have gb := ex.sub (M := [0]) rfl
    have ey := I.n a5
    refine mv (.tuple [D, vB L.2].toArray) rfl (Lw.r rfl (R.ext (vs := [D, vB L.2]) (v := D) rfl rfl) (Lw.r rfl (R.ext (vs := [D, vB L.2]) (v := vB L.2) rfl rfl) (Gv D rfl (Nb rfl (sr (Nb rfl (ssr (Ni rfl (Cw.block ?_)))))))))
    obtain ⟨ez, e0, hm⟩ := zaS hm
    refine Cw.loop 116 134 [14, 15] (fun m l w => ∃ N x O, CW.w O = w ∧ Le [] c8 O ∧ l = [vB N, vI x] ∧ Vm.zdw x1 k ae H ez m N x = some r) _ ⟨false, 0, c8, rfl, Le.refl _ _, rfl, hm⟩ ?_
    rintro (_ | gc) _ _ σ ⟨N, x, O, rfl, P, rfl, hm⟩
    ·cases hm
    unfold Vm.zdw at hm
    have c9 := ey.n P
    have b1 := (c6.up a5).up P
    refine ssr (mi rfl (mi rfl (Lw.lt rfl (nl (cn hm (fun hm => ?_) fun hm => ?_)))))
    ·refine sk (Cw.seq (Cw.block (Cw.draw [] [(0, 0), (1, 0), (2, 0), (3, 0), (4, 0), (5, 0), (6, 1), (7, 0), (8, 0), (9, 0), (10, 0), (11, 1), (12, 0), (13, 0), (14, 0)] mixed (by kernel_rfl) fun da a6 => ?_)))
     have b2 := c9.n a6
     have b3 := b1.up a6
     refine Db rfl (Db rfl (bs hm (fun a hm => ?_) fun a hm => ?_))
     ·exact dps 11 a rfl (Mw.p rfl rfl (fun _ => R.pk a rfl (v := vB true) rfl) (Hb rfl (Mw.nil (rg (mi rfl (Lw.add rfl (Ni rfl ((agm) ⟨true, w64 (x + 1), da, rfl, (P.j a6).w, rfl, hm⟩))))))))
     ·refine Wp a rfl (fun _ => R.mv (v := i) rfl) (Wp a rfl (fun _ => R.mv (v := vI x) rfl) ?_)
      obtain ⟨db, b4, hm⟩ := ob hm
      refine Wp a rfl (fun _ => R.ix (α := Change) b3.rd b4 rfl rfl rfl) (Wp a rfl (fun _ => R.fa rfl) (Wq a rfl (fun _ c => R.ld rfl rfl (zah (Change.at2 (b3.rd.at_ b4)).1 rfl (Change.at2 (b3.rd.at_ b4)).str c)) (Wp a rfl (fun _ => R.mv (v := f) rfl) (Wp a rfl (fun _ => R.mv (v := vI H) rfl) ?_))))
      obtain ⟨dc, b5, hm⟩ := ob hm
      exact Wp a rfl (fun _ => R.ix (α := File) (h.ul b2) b5 rfl rfl rfl) (Wp a rfl (fun _ => R.fa rfl) (Wq a rfl (fun _ c => R.ld rfl rfl (zah (File.at0 ((h.ul b2).at_ b5)).1 rfl (File.at0 ((h.ul b2).at_ b5)).str c)) (Wp a rfl (fun _ => R.seq rfl rfl) (Mw.p rfl rfl (fun _ => R.pk a rfl (v := vB (db.To == dc.Path)) rfl) (Hb rfl (Mw.nil (rg (mi rfl (Lw.add rfl (Ni rfl ((agm) ⟨(db.To == dc.Path), w64 (x + 1), da, rfl, (P.j a6).w, rfl, hm⟩)))))))))))
    ·refine Cw.exit ?_
     rw [e0] at hm
     obtain ⟨e1, e2, hm⟩ := zaS hm
     refine Cw.join 135 140 [140] (fun l w => ∃ b6 a7, CW.w a7 = w ∧ Le [] O a7 ∧ l = [vB b6] ∧ e1 b6 = some r) ?_ ?_
     ·rintro _ _ σ ⟨b6, a7, rfl, ai, rfl, hm⟩
      rw [e2] at hm
      have e3 := c9.n ai
      refine cn hm (fun hm => ?_) fun hm => ?_
      ·refine Cw.draw [2, 8] [(0, 0), (1, 0), (2, 0), (3, 0), (4, 0), (5, 1), (7, 0), (8, 0), (9, 0), (10, 0), (11, 1), (6, 2), (12, 2), (13, 0), (14, 2), (15, 2), (16, 0)] mixed (by kernel_rfl) fun gd b7 => ?_
       have e4 := e3.n b7
       refine Dv i rfl (Dv f rfl (Di rfl ?_))
       obtain ⟨aj, b8, hm⟩ := ob hm
       have Q := h.ul e4
       refine Mw.p rfl rfl (fun _ => R.ix (α := File) Q b8 rfl rfl rfl) (Df rfl (Mw.q rfl rfl (fun _ c => R.ld rfl rfl (zah (File.at0 (Q.at_ b8)).1 rfl (File.at0 (Q.at_ b8)).str c)) (Dv f rfl (Di rfl ?_))))
       obtain ⟨gf, b9, hm⟩ := ob hm
       refine Mw.p rfl rfl (fun _ => R.ix (α := File) Q b9 rfl rfl rfl) (Df rfl ?_)
       obtain ⟨gg, c203, r204⟩ := (File.at1 (Q.at_ b9)).cell rfl
       refine Mw.q rfl rfl (fun _ c => R.ld rfl rfl (zah (File.at1 (Q.at_ b9)).1 rfl c203 c)) (Mw.t rfl rfl (T.lit0 (α := Str) 8 []) ?_)
       rintro gh _ ⟨gj, rfl, a8, e5⟩
       have e6 := a8.o
       refine m0 a8 fun e7 => ?_
       obtain ⟨e8, e9, hm⟩ := ob hm
       refine Mw.t rfl rfl (T.appP (α := Str) e5 (r204.ul e6) rfl rfl e9) ?_
       rintro a9 _ ⟨gk, rfl, cb, dd⟩
       refine mc e7 cb fun fb => Mw.p rfl rfl (fun _ => R.bd (zs := [vI 0, vS ([] : Str), vS ([] : Str), .slice none 0 0, .slice none 0 0]) (cs := [vI 1, vS aj.Path, vS ([] : Str), a9, .slice none 0 0]) [(0, vI 1), (1, vS aj.Path), (3, a9)] rfl rfl rfl (zaD rfl rfl (zaD rfl rfl (zaD dd.oc rfl zdN)))) (Mw.t rfl rfl (T.bs 9 [.agg [vI 1, vS aj.Path, vS ([] : Str), a9, .slice none 0 0].toArray] (cs := [vI 1, vS aj.Path, vS ([] : Str), a9, .slice none 0 0]) rfl rfl (bsA rfl)) ?_)
       rintro _ _ ⟨gm, gn, rfl, rfl, ba, fc⟩
       refine mc fb ba fun fd => ?_
       obtain ⟨fe, ff, hm⟩ := ob hm
       refine Mw.t rfl rfl (T.app1 (α := Change) (J := [8]) (K' := []) (((((b1.up ai).up b7).up a8).up cb).up ba) fc (Change.own 1 aj.Path ([] : Str) e8 ([] : List Hunk) (dd.up ba).s (zm5 [])) rfl rfl ff) ?_
       rintro de _ ⟨fg, rfl, df, fh⟩
       exact mc fd df fun go => Hv de rfl (Mw.nil ((ag) ⟨fe, de, D, vB L.2, vB N, vI x, fg, rfl, (((((((a5.j P).j ai).j b7).j a8).j cb).j ba).j df).w, rfl, fh, hm⟩))
      ·exact sk ((ag) ⟨ae, i, D, vB L.2, vB N, vI x, a7, rfl, ((a5.j P).j ai).w, rfl, (b1.up ai), hm⟩)
     ·refine rg (mb rfl (Lw.r rfl (R.not rfl) (mb rfl (bs hm (fun ak hm => ?_) fun ak hm => ?_))))
      ·exact wak 2 ak (mb rfl (Lw.r rfl (R.not rfl) (Pb ak rfl (nl ((ag) ⟨(!N), O, rfl, Le.refl _ _, rfl, hm⟩)))))
      ·exact psk 2 ak rfl (Pb ak rfl (nl ((ag) ⟨false, O, rfl, Le.refl _ _, rfl, hm⟩)))
  ·refine Cw.exit ?_
   rw [er] at hm
   refine sr (mv i rfl (Nv i rfl ?_))
   cases hm
   exact Cw.ret (zhB rfl (Res.mk I ⟨i, rfl, c6.s.sub rfl rfl⟩))
theorem p182 {x0 b x1 d k0 r} (f : Rd W K [b] x0) (h : Rd W K [d] x1) (hm : Vm.zhG x0 x1 = some r) : Q1 182 [b, d] W [] fun W' v => ∃ a, v = a ∧ Ow W' k0 [] [a] r :=
 (c182 (f.view _) (h.view _) hm).ad (fk k0) fun _ _ ⟨a, e, i⟩ => ⟨a, e, i.back (zfR _)⟩
theorem c257 {x0 f r} (G : Rd W0 [0] [f] x0) (hm : Vm.zju x0 = some r) : Q0 257 [f] W0 fun Wf v => v = vB r := by
 unfold Vm.zju at hm
 refine zaj.of Tryz.func257 rfl rfl rfl rfl (sr (Nb rfl (ssr (Ni rfl (Cw.block ?_)))))
 obtain ⟨K4, ae, hm⟩ := zaS hm
 refine Cw.loop 4 76 [2, 3] (fun m l w => ∃ C e D, CW.w D = w ∧ Le [] W0 D ∧ l = [vB C, vI e] ∧ Vm.ze6 x0 K4 m C e = some r) _ ⟨false, 0, W0, rfl, Le.refl _ _, rfl, hm⟩ ?_
 rintro (_ | m5) _ _ σ ⟨C, e, D, rfl, W, rfl, hm⟩
 ·cases hm
 unfold Vm.ze6 at hm
 have A := W.o
 refine ssr (mi rfl (mv f rfl (Lw.ln x0 (G.ul A) rfl (Lw.lt rfl (nl (cn hm (fun hm => ?_) fun hm => ?_))))))
 ·refine sk (Cw.seq (Cw.block ?_))
  obtain ⟨af, ah, hm⟩ := zaS hm
  refine Cw.join 10 76 [76] (fun l w => ∃ H E, CW.w E = w ∧ Le [] D E ∧ l = [vB H] ∧ af H = some r) ?_ ?_
  ·rintro _ _ σ ⟨H, E, rfl, l10, rfl, hm⟩
   rw [ah] at hm
   have ai := A.n l10
   refine cn hm (fun hm => ?_) fun hm => ?_
   ·exact sr (Nb rfl (.ret (rt hm ai)))
   ·exact sk (rg (mi rfl (Lw.add rfl (Ni rfl ((agm) ⟨C, w64 (e + 1), E, rfl, (W.j l10).w, rfl, hm⟩)))))
  ·refine Cw.draw [] [(0, 0), (1, 0), (2, 0), (3, 0), (4, 1), (5, 2), (6, 0), (7, 0), (8, 0), (9, 0), (10, 0), (11, 0), (12, 1), (13, 2), (14, 0), (15, 0), (16, 0), (17, 0), (18, 0), (19, 0), (20, 0), (21, 1), (22, 0), (23, 0), (24, 0), (25, 0), (26, 0), (27, 1), (28, 0), (29, 0), (30, 0), (31, 0), (32, 0), (33, 0), (34, 0), (35, 0), (36, 0), (37, 1), (38, 2), (39, 0), (40, 0), (41, 0), (42, 0), (43, 0), (44, 0), (45, 0), (46, 0), (47, 0), (48, 0), (49, 1), (50, 0), (51, 0), (52, 0), (53, 0), (54, 0), (55, 1), (56, 0), (57, 0), (58, 0), (59, 0), (60, 0), (61, 1), (62, 0), (63, 0), (64, 0), (65, 0), (66, 0)] mixed (by kernel_rfl) fun ax y => ?_
   have aj := A.n y
   refine Dv f rfl (Di rfl ?_)
   obtain ⟨ay, I, hm⟩ := ob hm
   have a := G.ul aj
   refine Mw.p rfl rfl (fun _ => R.ix (α := Hunk) a I rfl rfl rfl) (Df rfl ?_)
   obtain ⟨az, c20, r21⟩ := (Hunk.at1 (a.at_ I)).cell rfl
   refine Mw.q rfl rfl (fun _ c => R.ld rfl rfl (zah (Hunk.at1 (a.at_ I)).1 rfl c20 c)) ?_
   obtain ⟨a0, ak, hm⟩ := ob hm
   refine Mw.t rfl rfl (T.call rfl (p166  r21 ak)) ?_
   rintro _ _ ⟨am, rfl, x, rfl⟩
   have X := x.o
   refine m0 x fun an => Mw.p rfl rfl (fun _ => R.not rfl) (Db rfl (bs hm (fun h hm => ?_) fun h hm => ?_))
   ·exact dps 7 h rfl (Mw.p rfl rfl (fun _ => R.pk h rfl (v := vB true) rfl) (Db rfl (dps 14 rfl rfl (Mw.p rfl rfl (fun _ => R.pk rfl rfl (v := vB true) rfl) (Db rfl (dps 7 rfl rfl (Mw.p rfl rfl (fun _ => R.pk rfl rfl (v := vB true) rfl) (Db rfl (dps 3 rfl rfl (dpu 20 rfl (dps 1 rfl rfl (Mw.p rfl rfl (fun _ => R.pk rfl rfl (v := vB true) rfl) (Mw.nil ((ag) ⟨true, am, rfl, (y.j x).w, rfl, hm⟩))))))))))))))
   ·refine Wp h rfl (fun _ => R.mv (v := f) rfl) (Wp h rfl (fun _ => R.mv (v := vI e) rfl) ?_)
    obtain ⟨a1, J, hm⟩ := ob hm
    refine Wp h rfl (fun _ => R.ix (α := Hunk) a J rfl rfl rfl) (Wp h rfl (fun _ => R.fa rfl) ?_)
    obtain ⟨a2, c30, r31⟩ := (Hunk.at2 (a.at_ J)).cell rfl
    refine Wq h rfl (fun _ c => R.ld rfl rfl (zah (Hunk.at2 (a.at_ J)).1 rfl c30 c)) ?_
    obtain ⟨ao, ap, hm⟩ := ob hm
    refine Wt h rfl (T.call rfl (p166  (r31.ul X) ap)) ?_
    rintro _ _ ⟨Y, rfl, z, rfl⟩
    have K := X.n z
    refine mc an z fun aq => Wp h rfl (fun _ => R.not rfl) (Mw.p rfl rfl (fun _ => R.pk h rfl (v := vB (!ao)) rfl) (Db rfl (bs hm (fun d hm => ?_) fun d hm => ?_)))
    ·exact dps 14 d rfl (Mw.p rfl rfl (fun _ => R.pk d rfl (v := vB true) rfl) (Db rfl (dps 7 rfl rfl (Mw.p rfl rfl (fun _ => R.pk rfl rfl (v := vB true) rfl) (Db rfl (dps 3 rfl rfl (dpu 20 rfl (dps 1 rfl rfl (Mw.p rfl rfl (fun _ => R.pk rfl rfl (v := vB true) rfl) (Mw.nil ((ag) ⟨true, Y, rfl, ((y.j x).j z).w, rfl, hm⟩)))))))))))
    ·refine Wp d rfl (fun _ => R.mv (v := f) rfl) (Wp d rfl (fun _ => R.mv (v := vI e) rfl) ?_)
     obtain ⟨Z, L, hm⟩ := ob hm
     refine Wp d rfl (fun _ => R.ix (α := Hunk) a L rfl rfl rfl) (Wp d rfl (fun _ => R.fa rfl) ?_)
     obtain ⟨a3, c41, r42⟩ := (Hunk.at1 (a.at_ L)).cell rfl
     refine Wq d rfl (fun _ c => R.ld rfl rfl (zah (Hunk.at1 (a.at_ L)).1 rfl c41 c)) (Wp d rfl (fun _ => zs4 (xs := Z.Less) (r42.ul K) rfl) (Wp d rfl (fun _ => R.mv (v := f) rfl) (Wp d rfl (fun _ => R.mv (v := vI e) rfl) ?_)))
     obtain ⟨aa, M, hm⟩ := ob hm
     refine Wp d rfl (fun _ => R.ix (α := Hunk) a M rfl rfl rfl) (Wp d rfl (fun _ => R.fa rfl) ?_)
     obtain ⟨a4, c47, r48⟩ := (Hunk.at2 (a.at_ M)).cell rfl
     refine Wq d rfl (fun _ c => R.ld rfl rfl (zah (Hunk.at2 (a.at_ M)).1 rfl c47 c)) (Wp d rfl (fun _ => zs4 (xs := aa.More) (r48.ul K) rfl) (Wp d rfl (fun _ => R.add rfl rfl) (Wp d rfl (fun _ => R.eq rfl rfl) (Mw.p rfl rfl (fun _ => R.pk d rfl (v := vB ((w64 ((Z.Less.length : Int) + (aa.More.length : Int)) : Int) == (0 : Int))) rfl) (Db rfl (bs hm (fun i hm => ?_) fun i hm => ?_))))))
     ·exact dps 7 i rfl (Mw.p rfl rfl (fun _ => R.pk i rfl (v := vB true) rfl) (Db rfl (dps 3 rfl rfl (dpu 20 rfl (dps 1 rfl rfl (Mw.p rfl rfl (fun _ => R.pk rfl rfl (v := vB true) rfl) (Mw.nil ((ag) ⟨true, Y, rfl, ((y.j x).j z).w, rfl, hm⟩))))))))
     ·refine Wp i rfl (fun _ => R.mv (v := f) rfl) (Wp i rfl (fun _ => R.mv (v := vI e) rfl) ?_)
      obtain ⟨a5, N, hm⟩ := ob hm
      refine Wp i rfl (fun _ => R.ix (α := Hunk) a N rfl rfl rfl) (Wp i rfl (fun _ => R.fa rfl) (Wq i rfl (fun _ c => R.ld rfl rfl (zah (Hunk.at0 (a.at_ N)).1 rfl (Hunk.at0 (a.at_ N)).int c)) ?_))
      obtain ⟨ar, au, hm⟩ := ob hm
      refine Wt i rfl (T.call rfl (p57   au)) ?_
      rintro _ _ ⟨O, rfl, B, rfl⟩
      have av := K.n B
      refine mc aq B fun a7 => Wp i rfl (fun _ => R.not rfl) (Mw.p rfl rfl (fun _ => R.pk i rfl (v := vB (!ar)) rfl) (Db rfl (bs hm (fun k hm => ?_) fun k hm => ?_)))
      ·exact dps 3 k rfl (dpu 20 rfl (dps 1 k rfl (Mw.p rfl rfl (fun _ => R.pk k rfl (v := vB true) rfl) (Mw.nil ((ag) ⟨true, O, rfl, (((y.j x).j z).j B).w, rfl, hm⟩)))))
      ·refine Wp k rfl (fun _ => R.mv (v := vI e) rfl) (Wp k rfl (fun _ => R.gt rfl rfl) (Wp k rfl (fun _ => R.mv (v := vB (decide ((0 : Int) < (e : Int)))) rfl) (bs hm (fun b hm => ?_) fun b hm => ?_)))
       ·refine Wp b rfl (fun _ => R.mv (v := f) rfl) (Wp b rfl (fun _ => R.mv (v := vI e) rfl) ?_)
        obtain ⟨P, Q, hm⟩ := ob hm
        refine Wp b rfl (fun _ => R.ix (α := Hunk) a Q rfl rfl rfl) (Wp b rfl (fun _ => R.fa rfl) (Wq b rfl (fun _ c => R.ld rfl rfl (zah (Hunk.at0 (a.at_ Q)).1 rfl (Hunk.at0 (a.at_ Q)).int c)) (Wp b rfl (fun _ => R.mv (v := f) rfl) (Wp b rfl (fun _ => R.mv (v := vI e) rfl) (Wp b rfl (fun _ => R.sub rfl rfl) ?_)))))
        obtain ⟨S, U, hm⟩ := ob hm
        refine Wp b rfl (fun _ => R.ix (α := Hunk) a U rfl rfl rfl) (Wp b rfl (fun _ => R.fa rfl) (Wq b rfl (fun _ c => R.ld rfl rfl (zah (Hunk.at0 (a.at_ U)).1 rfl (Hunk.at0 (a.at_ U)).int c)) (Wp b rfl (fun _ => R.mv (v := f) rfl) (Wp b rfl (fun _ => R.mv (v := vI e) rfl) (Wp b rfl (fun _ => R.sub rfl rfl) ?_)))))
        obtain ⟨F, V, hm⟩ := ob hm
        refine Wp b rfl (fun _ => R.ix (α := Hunk) a V rfl rfl rfl) (Wp b rfl (fun _ => R.fa rfl) ?_)
        obtain ⟨a8, c66, r67⟩ := (Hunk.at1 (a.at_ V)).cell rfl
        exact Wq b rfl (fun _ c => R.ld rfl rfl (zah (Hunk.at1 (a.at_ V)).1 rfl c66 c)) (Wp b rfl (fun _ => zs4 (xs := F.Less) (r67.ul av) rfl) (Wp b rfl (fun _ => R.add rfl rfl) (Wp b rfl (fun _ => R.le rfl rfl) (Wp k rfl (fun _ => R.pk b rfl (v := vB (decide ((P.At : Int) ≤ (w64 (S.At + (F.Less.length : Int)) : Int)))) rfl) (Mw.p rfl rfl (fun _ => R.pk k rfl (v := vB (decide ((P.At : Int) ≤ (w64 (S.At + (F.Less.length : Int)) : Int)))) rfl) (Mw.nil ((ag) ⟨decide ((P.At : Int) ≤ (w64 (S.At + (F.Less.length : Int)) : Int)), O, rfl, (((y.j x).j z).j B).w, rfl, hm⟩)))))))
       ·exact dps 20 b rfl (Wp k rfl (fun _ => R.pk b rfl (v := vB false) rfl) (Mw.p rfl rfl (fun _ => R.pk k rfl (v := vB false) rfl) (Mw.nil ((ag) ⟨false, O, rfl, (((y.j x).j z).j B).w, rfl, hm⟩))))
 ·refine Cw.exit ?_
  rw [ae] at hm
  exact sr (mv f rfl (Lw.ln x0 (G.ul A) rfl (Lw.le rfl (Nb rfl (.ret (rt hm A))))))
theorem p257 {x0 a r} (b : Rd W K [a] x0) (hm : Vm.zju x0 = some r) : Q1 257 [a] W [] fun W' v => v = vB r :=
 (c257 (b.view _) hm).ad (fk 0) fun _ _ e => e
theorem c230 {x0 Y Z r} (h0 : Rd W0 [0] [vI x0.Kind, vS x0.Path, vS x0.To, Y, Z] x0) (hm : Vm.zh9 x0 = some r) : Q0 230 [.agg [vI x0.Kind, vS x0.Path, vS x0.To, Y, Z].toArray] W0 fun Wf v => v = vB r := by
 unfold Vm.zh9 at hm
 obtain ⟨bb, bc, aa, N, H⟩ := Change.split h0
 simp only [List.cons.injEq, and_true, true_and] at aa
 obtain ⟨rfl, rfl⟩ := aa
 refine zaj.of Tryz.func230 rfl rfl rfl rfl (sr (bo 2 rfl fun g1 O l1 b1 => ?_))
 have a2 := l1.o
 refine Nb rfl (ssr (fl b1 rfl (nl (Cw.block ?_))))
 obtain ⟨K5, ap, hm⟩ := zaS hm
 refine Cw.join 5 7 [5] (fun l w => ∃ P f, CW.w f = w ∧ Le [] O f ∧ l = [vB P] ∧ K5 P = some r) ?_ ?_
 ·rintro _ _ σ ⟨P, f, rfl, l4, rfl, hm⟩
  rw [ap] at hm
  have b := a2.n l4
  have d := b1.up l4
  refine cn hm (fun hm => ?_) fun hm => ?_
  ·obtain ⟨aq, ar, hm⟩ := zaS hm
   refine Cw.join 8 26 [2] (fun l w => ∃ Q R, CW.w R = w ∧ Le [] f R ∧ l = [vB Q] ∧ aq Q = some r) ?_ ?_
   ·rintro _ _ σ ⟨Q, R, rfl, l10, rfl, hm⟩
    rw [ar] at hm
    have au := b.n l10
    exact .ret (rt hm au)
   ·refine rg (fl d rfl (ca hm (fun _ => p145) fun bg af hm h => ?_))
    have ah := b.n h
    have S := d.up h
    refine mb rfl (bs hm (fun k hm => ?_) fun k hm => ?_)
    ·refine wak 3 k (fl S rfl (Lw.seq rfl (Pb k rfl (mb rfl (bs hm (fun x hm => ?_) fun x hm => ?_)))))
     ·refine wak 3 x (fl S rfl (ca hm (fun _ => p166 (N.ul ah)) fun bh ai hm I => ?_))
      have av := ah.n I
      refine Pb x rfl (mb rfl (bs hm (fun y hm => ?_) fun y hm => ?_))
      ·exact wak 4 y (fl (S.up I) rfl (Lw.ln x0.Patch (H.ul av) rfl (Lw.eq rfl (Pb y rfl (Nb rfl ((ag) ⟨(((x0.Patch.length : Int) : Int) == (0 : Int)), ai, rfl, (h.j I).w, rfl, hm⟩))))))
      ·exact psk 4 y rfl (Pb y rfl (Nb rfl ((ag) ⟨false, ai, rfl, (h.j I).w, rfl, hm⟩)))
     ·exact psk 3 x rfl (Pb x rfl (mb rfl (psk 4 rfl rfl (Pb rfl rfl (Nb rfl ((ag) ⟨false, af, rfl, h, rfl, hm⟩))))))
    ·exact psk 3 k rfl (Pb k rfl (mb rfl (psk 3 rfl rfl (Pb rfl rfl (mb rfl (psk 4 rfl rfl (Pb rfl rfl (Nb rfl ((ag) ⟨false, af, rfl, h, rfl, hm⟩)))))))))
  ·refine sr (Lw.eq rfl (Nb rfl (cn hm (fun hm => ?_) fun hm => ?_)))
   ·obtain ⟨aw, ax, hm⟩ := zaS hm
    refine Cw.join 29 53 [2] (fun l w => ∃ T U, CW.w U = w ∧ Le [] f U ∧ l = [vB T] ∧ aw T = some r) ?_ ?_
    ·rintro _ _ σ ⟨T, U, rfl, ay, rfl, hm⟩
     rw [ax] at hm
     have az := b.n ay
     exact .ret (rt hm az)
    ·refine rg (fl d rfl (ca hm (fun _ => p145) fun bi J hm e => ?_))
     have V := b.n e
     have K := d.up e
     refine mb rfl (bs hm (fun z hm => ?_) fun z hm => ?_)
     ·refine wak 3 z (fl K rfl (Lw.seq rfl (Pb z rfl (mb rfl (bs hm (fun A hm => ?_) fun A hm => ?_)))))
      ·refine wak 4 A (fl K rfl (Lw.ln x0.Text (N.ul V) rfl (Lw.eq rfl (Pb A rfl (mb rfl (bs hm (fun B hm => ?_) fun B hm => ?_))))))
       ·refine wak 4 B (fl K rfl (Lw.ln x0.Patch (H.ul V) rfl (Lw.gt rfl (Pb B rfl (mb rfl (bs hm (fun C hm => ?_) fun C hm => ?_))))))
        ·exact wak 3 C (fl K rfl (ca hm (fun _ => p257 (H.ul V)) fun a0 a1 hm a3 => Pb C rfl (Nb rfl ((ag) ⟨a0, a1, rfl, (e.j a3).w, rfl, hm⟩))))
        ·exact psk 3 C rfl (Pb C rfl (Nb rfl ((ag) ⟨false, J, rfl, e, rfl, hm⟩)))
       ·exact psk 4 B rfl (Pb B rfl (mb rfl (psk 3 rfl rfl (Pb rfl rfl (Nb rfl ((ag) ⟨false, J, rfl, e, rfl, hm⟩))))))
      ·exact psk 4 A rfl (Pb A rfl (mb rfl (psk 4 rfl rfl (Pb rfl rfl (mb rfl (psk 3 rfl rfl (Pb rfl rfl (Nb rfl ((ag) ⟨false, J, rfl, e, rfl, hm⟩)))))))))
     ·exact psk 3 z rfl (Pb z rfl (mb rfl (psk 4 rfl rfl (Pb rfl rfl (mb rfl (psk 4 rfl rfl (Pb rfl rfl (mb rfl (psk 3 rfl rfl (Pb rfl rfl (Nb rfl ((ag) ⟨false, J, rfl, e, rfl, hm⟩))))))))))))
   ·refine sr (Lw.eq rfl (Nb rfl (cn hm (fun hm => ?_) fun hm => ?_)))
    ·obtain ⟨a4, a5, hm⟩ := zaS hm
     refine Cw.join 56 82 [2] (fun l w => ∃ W X, CW.w X = w ∧ Le [] f X ∧ l = [vB W] ∧ a4 W = some r) ?_ ?_
     ·rintro _ _ σ ⟨W, X, rfl, a7, rfl, hm⟩
      rw [a5] at hm
      have a8 := b.n a7
      exact .ret (rt hm a8)
     ·refine rg (fl d rfl (ca hm (fun _ => p145) fun bj a9 hm a => ?_))
      have ba := b.n a
      refine mb rfl (bs hm (fun D hm => ?_) fun D hm => ?_)
      ·refine wak 3 D (fl (d.up a) rfl (ca hm (fun _ => p145) fun bk L hm i => ?_))
       have aj := ba.n i
       have M := (d.up a).up i
       refine Pb D rfl (mb rfl (bs hm (fun E hm => ?_) fun E hm => ?_))
       ·refine wak 5 E (fl M rfl (fl M rfl (Lw.sne rfl (Pb E rfl (mb rfl (bs hm (fun F hm => ?_) fun F hm => ?_))))))
        ·refine wak 4 F (fl M rfl (Lw.ln x0.Text (N.ul aj) rfl (Lw.eq rfl (Pb F rfl (mb rfl (bs hm (fun G hm => ?_) fun G hm => ?_))))))
         ·exact wak 4 G (fl M rfl (Lw.ln x0.Patch (H.ul aj) rfl (Lw.eq rfl (Pb G rfl (Nb rfl ((ag) ⟨(((x0.Patch.length : Int) : Int) == (0 : Int)), L, rfl, (a.j i).w, rfl, hm⟩))))))
         ·exact psk 4 G rfl (Pb G rfl (Nb rfl ((ag) ⟨false, L, rfl, (a.j i).w, rfl, hm⟩)))
        ·exact psk 4 F rfl (Pb F rfl (mb rfl (psk 4 rfl rfl (Pb rfl rfl (Nb rfl ((ag) ⟨false, L, rfl, (a.j i).w, rfl, hm⟩))))))
       ·exact psk 5 E rfl (Pb E rfl (mb rfl (psk 4 rfl rfl (Pb rfl rfl (mb rfl (psk 4 rfl rfl (Pb rfl rfl (Nb rfl ((ag) ⟨false, L, rfl, (a.j i).w, rfl, hm⟩)))))))))
      ·exact psk 3 D rfl (Pb D rfl (mb rfl (psk 5 rfl rfl (Pb rfl rfl (mb rfl (psk 4 rfl rfl (Pb rfl rfl (mb rfl (psk 4 rfl rfl (Pb rfl rfl (Nb rfl ((ag) ⟨false, a9, rfl, a, rfl, hm⟩))))))))))))
    ·exact sk (sr (Nb rfl (.ret (rt hm b))))
 ·refine sr (Lw.eq rfl (Nb rfl (cn hm (fun hm => ?_) fun hm => ?_)))
  ·exact sk ((ag) ⟨((x0.Kind : Int) == (1 : Int)), O, rfl, Le.refl _ _, rfl, hm⟩)
  ·exact rg (Lw.eq rfl (Nb rfl ((ag) ⟨((x0.Kind : Int) == (2 : Int)), O, rfl, Le.refl _ _, rfl, hm⟩)))
theorem p230 {x0 a b r} (d : Rd W K [vI x0.Kind, vS x0.Path, vS x0.To, a, b] x0) (hm : Vm.zh9 x0 = some r) : Q1 230 [.agg [vI x0.Kind, vS x0.Path, vS x0.To, a, b].toArray] W [] fun W' v => v = vB r :=
 (c230 (d.view _) hm).ad (fk 0) fun _ _ e => e
theorem c231 {x0 b x1 r} (B : Rd W0 [0] [b] x0) (hm : Vm.zgi x0 x1 = some r) : Q0 231 [b, vS x1] W0 fun Wf v => v = vB r := by
 unfold Vm.zgi at hm
 refine zaj.of Tryz.func231 rfl rfl rfl rfl (sr (Nb rfl (ssr (Ni rfl (Cw.block ?_)))))
 obtain ⟨C, D, hm⟩ := zaS hm
 refine Cw.loop 6 27 [4, 5] (fun m l w => ∃ f h a, CW.w a = w ∧ Le [] W0 a ∧ l = [vB f, vI h] ∧ Vm.zdG x0 x1 C m f h = some r) _ ⟨false, 0, W0, rfl, Le.refl _ _, rfl, hm⟩ ?_
 rintro (_ | I) _ _ σ ⟨f, h, a, rfl, y, rfl, hm⟩
 ·cases hm
 unfold Vm.zdG at hm
 have k := y.o
 refine ssr ?_
 have d := B.ul k
 refine mi rfl (mv b rfl (Lw.ln x0 d rfl (Lw.lt rfl (nl (cn hm (fun hm => ?_) fun hm => ?_)))))
 ·refine sk (Cw.seq (Cw.block ?_))
  obtain ⟨E, F, hm⟩ := zaS hm
  refine Cw.join 12 27 [27] (fun l w => ∃ x i, CW.w i = w ∧ Le [] a i ∧ l = [vB x] ∧ E x = some r) ?_ ?_
  ·rintro _ _ σ ⟨x, i, rfl, l10, rfl, hm⟩
   rw [F] at hm
   have G := k.n l10
   refine cn hm (fun hm => ?_) fun hm => ?_
   ·exact sr (Nb rfl (.ret (rt hm G)))
   ·exact sk (rg (mi rfl (Lw.add rfl (Ni rfl ((agm) ⟨f, w64 (h + 1), i, rfl, (y.j l10).w, rfl, hm⟩)))))
  ·refine rg (mv b rfl (mi rfl ?_))
   obtain ⟨J, z, hm⟩ := ob hm
   refine Lw.r rfl (R.ix (α := Change) d z rfl rfl rfl) (Lw.fa rfl (Lw.r rfl (R.ld rfl rfl (Change.at1 (d.at_ z)).str) (ms rfl (Lw.seq rfl (mb rfl (bs hm (fun e hm => ?_) fun e hm => ?_))))))
   ·exact psk 7 e rfl (Pb e rfl (nl ((ag) ⟨true, a, rfl, Le.refl _ _, rfl, hm⟩)))
   ·refine wak 7 e (mv b rfl (mi rfl ?_))
    obtain ⟨H, A, hm⟩ := ob hm
    exact Lw.r rfl (R.ix (α := Change) d A rfl rfl rfl) (Lw.fa rfl (Lw.r rfl (R.ld rfl rfl (Change.at2 (d.at_ A)).str) (ms rfl (Lw.seq rfl (Pb e rfl (nl ((ag) ⟨(H.To == x1), a, rfl, Le.refl _ _, rfl, hm⟩)))))))
 ·refine Cw.exit ?_
  rw [D] at hm
  exact sr (Nb rfl (.ret (rt hm k)))
theorem p231 {x0 a x1 r} (b : Rd W K [a] x0) (hm : Vm.zgi x0 x1 = some r) : Q1 231 [a, vS x1] W [] fun W' v => v = vB r :=
 (c231 (b.view _) hm).ad (fk 0) fun _ _ e => e
theorem c202 {x0 f r} (i : Rd W0 [0] [f] x0) (hm : Vm.zjv x0 = some r) : Q0 202 [f] W0 fun Wf v => v = vB r := by
 unfold Vm.zjv at hm
 refine zaj.of Tryz.func202 rfl rfl rfl rfl (sr (Nb rfl (ssr (Ni rfl (Cw.block ?_)))))
 obtain ⟨V, W, hm⟩ := zaS hm
 refine Cw.loop 4 47 [2, 3] (fun m l w => ∃ B h C, CW.w C = w ∧ Le [] W0 C ∧ l = [vB B, vI h] ∧ Vm.ze7 x0 V m B h = some r) _ ⟨false, 0, W0, rfl, Le.refl _ _, rfl, hm⟩ ?_
 rintro (_ | m5) _ _ σ ⟨B, h, C, rfl, M, rfl, hm⟩
 ·cases hm
 unfold Vm.ze7 at hm
 have x := M.o
 refine ssr (mi rfl (mv f rfl (Lw.ln x0 (i.ul x) rfl (Lw.lt rfl (nl (cn hm (fun hm => ?_) fun hm => ?_))))))
 ·refine sk (Cw.seq (Cw.block ?_))
  obtain ⟨X, Y, hm⟩ := zaS hm
  refine Cw.join 10 47 [47] (fun l w => ∃ E D, CW.w D = w ∧ Le [] C D ∧ l = [vB E] ∧ X E = some r) ?_ ?_
  ·rintro _ _ σ ⟨E, D, rfl, l10, rfl, hm⟩
   rw [Y] at hm
   have Z := x.n l10
   refine cn hm (fun hm => ?_) fun hm => ?_
   ·exact sr (Nb rfl (.ret (rt hm Z)))
   ·exact sk (rg (mi rfl (Lw.add rfl (Ni rfl ((agm) ⟨B, w64 (h + 1), D, rfl, (M.j l10).w, rfl, hm⟩)))))
  ·refine Cw.draw [] [(0, 0), (1, 0), (2, 0), (3, 1), (4, 2), (5, 0), (6, 0), (7, 0), (8, 0), (9, 0), (10, 0), (11, 0), (12, 0), (13, 0), (14, 1), (15, 2), (16, 0), (17, 0), (18, 0), (19, 0), (20, 0), (21, 0), (22, 0), (23, 1), (24, 0), (25, 0), (26, 0), (27, 0), (28, 0), (29, 0), (30, 0), (31, 0), (32, 0), (33, 1), (34, 2), (35, 0), (36, 0), (37, 0)] mixed (by kernel_rfl) fun ao y => ?_
   have N := x.n y
   refine Dv f rfl (Di rfl ?_)
   obtain ⟨z, F, hm⟩ := ob hm
   have e := i.ul N
   refine Mw.p rfl rfl (fun _ => R.ix (α := Change) e F rfl rfl rfl) ?_
   obtain ⟨x19, c20, _, r21⟩ := (e.at_ F).cells
   obtain ⟨ap, aq, rfl, r23, r25⟩ := Change.split r21
   refine Mw.q rfl rfl (fun _ c => R.lda (zhM (e.at_ F).1 rfl c20 c) rfl rfl) ?_
   obtain ⟨ar, aa, hm⟩ := ob hm
   refine Mw.t rfl rfl (T.call rfl (p230  (Change.rd (K := [0]) z.Kind z.Path z.To z.Text z.Patch r23 r25) aa)) ?_
   rintro _ _ ⟨ac, rfl, k, rfl⟩
   have G := N.n k
   refine m0 k fun ae => Mw.p rfl rfl (fun _ => R.not rfl) (Db rfl (bs hm (fun b hm => ?_) fun b hm => ?_))
   ·exact dps 10 b rfl (Mw.p rfl rfl (fun _ => R.pk b rfl (v := vB true) rfl) (Db rfl (dps 7 rfl rfl (dpu 10 rfl (dps 1 rfl rfl (Mw.p rfl rfl (fun _ => R.pk rfl rfl (v := vB true) rfl) (Mw.nil ((ag) ⟨true, ac, rfl, (y.j k).w, rfl, hm⟩))))))))
   ·refine Wp b rfl (fun _ => R.mv (v := f) rfl) (Wp b rfl (fun _ => R.mv (v := vI h) rfl) ?_)
    obtain ⟨au, O, hm⟩ := ob hm
    have r35 := (i.ul G).cutV O
    refine Wp b rfl (fun _ => R.sl (i.ul G) O rfl (.inl ⟨rfl, rfl⟩) (.inr rfl)) (Wp b rfl (fun _ => R.mv (v := f) rfl) (Wp b rfl (fun _ => R.mv (v := vI h) rfl) ?_))
    obtain ⟨av, H, hm⟩ := ob hm
    refine Wp b rfl (fun _ => R.ix (α := Change) e H rfl rfl rfl) (Wp b rfl (fun _ => R.fa rfl) (Wq b rfl (fun _ c => R.ld rfl rfl (zah (Change.at1 (e.at_ H)).1 rfl (Change.at1 (e.at_ H)).str c)) ?_))
    obtain ⟨af, ah, hm⟩ := ob hm
    refine Wt b rfl (T.call rfl (p231  r35 ah)) ?_
    rintro _ _ ⟨P, rfl, A, rfl⟩
    have Q := G.n A
    refine mc ae A fun ai => Wp b rfl (fun _ => R.not rfl) (Mw.p rfl rfl (fun _ => R.pk b rfl (v := vB (!af)) rfl) (Db rfl (bs hm (fun a hm => ?_) fun a hm => ?_)))
    ·exact dps 7 a rfl (dpu 10 rfl (dps 1 a rfl (Mw.p rfl rfl (fun _ => R.pk a rfl (v := vB true) rfl) (Mw.nil ((ag) ⟨true, P, rfl, ((y.j k).j A).w, rfl, hm⟩)))))
    ·refine Wp a rfl (fun _ => R.mv (v := f) rfl) (Wp a rfl (fun _ => R.mv (v := vI h) rfl) ?_)
     obtain ⟨aj, I, hm⟩ := ob hm
     refine Wp a rfl (fun _ => R.ix (α := Change) e I rfl rfl rfl) (Wp a rfl (fun _ => R.fa rfl) (Wq a rfl (fun _ c => R.ld rfl rfl (zah (Change.at2 (e.at_ I)).1 rfl (Change.at2 (e.at_ I)).str c)) (Wp a rfl (fun _ => R.sne rfl rfl) (Wp a rfl (fun _ => R.mv (v := vB (aj.To != ([] : Str))) rfl) (bs hm (fun d hm => ?_) fun d hm => ?_)))))
     ·refine Wp d rfl (fun _ => R.mv (v := f) rfl) (Wp d rfl (fun _ => R.mv (v := vI h) rfl) ?_)
      obtain ⟨aw, S, hm⟩ := ob hm
      have r50 := (i.ul Q).cutV S
      refine Wp d rfl (fun _ => R.sl (i.ul Q) S rfl (.inl ⟨rfl, rfl⟩) (.inr rfl)) (Wp d rfl (fun _ => R.mv (v := f) rfl) (Wp d rfl (fun _ => R.mv (v := vI h) rfl) ?_))
      obtain ⟨ax, J, hm⟩ := ob hm
      refine Wp d rfl (fun _ => R.ix (α := Change) e J rfl rfl rfl) (Wp d rfl (fun _ => R.fa rfl) (Wq d rfl (fun _ c => R.ld rfl rfl (zah (Change.at2 (e.at_ J)).1 rfl (Change.at2 (e.at_ J)).str c)) ?_))
      obtain ⟨L, ak, hm⟩ := ob hm
      refine Wt d rfl (T.call rfl (p231  r50 ak)) ?_
      rintro _ _ ⟨am, rfl, U, rfl⟩
      exact mc ai U fun ay => Wp d rfl (fun _ => R.not rfl) (Wp a rfl (fun _ => R.pk d rfl (v := vB (!L)) rfl) (Mw.p rfl rfl (fun _ => R.pk a rfl (v := vB (!L)) rfl) (Mw.nil ((ag) ⟨(!L), am, rfl, (((y.j k).j A).j U).w, rfl, hm⟩))))
     ·exact dps 10 d rfl (Wp a rfl (fun _ => R.pk d rfl (v := vB false) rfl) (Mw.p rfl rfl (fun _ => R.pk a rfl (v := vB false) rfl) (Mw.nil ((ag) ⟨false, P, rfl, ((y.j k).j A).w, rfl, hm⟩))))
 ·refine Cw.exit ?_
  rw [W] at hm
  exact sr (mv f rfl (Lw.ln x0 (i.ul x) rfl (Lw.le rfl (Nb rfl (.ret (rt hm x))))))
theorem p202 {x0 a r} (b : Rd W K [a] x0) (hm : Vm.zjv x0 = some r) : Q1 202 [a] W [] fun W' v => v = vB r :=
 (c202 (b.view _) hm).ad (fk 0) fun _ _ e => e
theorem c181 {x0 a r} (d : Rd W0 [0] [a] x0) (hm : Vm.zct x0 = some r) : Q0 181 [a] W0 fun Wf v => ∃ E, v = E ∧ Rd Wf [0] [E] r := by
 unfold Vm.zct at hm
 refine zaj.of Tryz.func181 rfl rfl rfl rfl (sr (Nv (.slice none 0 0) rfl (sr (Lw.t rfl (T.lit0 (α := Str) 2 []) ?_))))
 rintro z _ ⟨W1, rfl, Q, S⟩
 have F := Q.o
 refine Nv z rfl (ssr (mv a rfl (ca hm (fun _ => p202 (d.ul F)) fun z4 W6 hm G => ?_)))
 have H := F.n G
 refine Lw.r rfl (R.not rfl) (nl (cn hm (fun hm => ?_) fun hm => ?_))
 ·refine sr (Nv (.slice none 0 0) rfl ?_)
  cases hm
  exact Cw.ret (zhB rfl (Res.mk H ⟨.slice none 0 0, rfl, (rdN (K := [0]))⟩))
 ·refine sk (ssr (Ni rfl (Cw.block ?_)))
  obtain ⟨A, U, l10, V⟩ := zp4 _ 2
  rw [← U]
  have W : Rd (α := List Str) A [0] [z] ([] : List Str) := by rw [V]; exact ((S.up G).rd.dye 2).sub (M := [0]) rfl
  have X := H.t l10
  obtain ⟨Y, Z, hm⟩ := zaS hm
  refine Cw.loop 9 34 [3, 4] (fun m l w => ∃ B i b e, CW.w e = w ∧ Le [] A e ∧ l = [b, vI i] ∧ Rd e [0] [b] B ∧ Vm.zbz x0 Y m B i = some r) _ ⟨([] : List Str), 0, z, A, rfl, Le.refl _ _, rfl, W, hm⟩ ?_
  rintro (_ | av) _ _ σ ⟨B, i, b, e, rfl, I, rfl, r15, hm⟩
  ·cases hm
  unfold Vm.zbz at hm
  have f := X.n I
  refine ssr (mi rfl (mv a rfl (Lw.ln x0 (d.ul f) rfl (Lw.lt rfl (nl (cn hm (fun hm => ?_) fun hm => ?_))))))
  ·refine sk ?_
   obtain ⟨aa, ac, hm⟩ := zaS hm
   refine Cw.join 15 34 [3] (fun l w => ∃ k x h, CW.w h = w ∧ Le [] e h ∧ l = [x] ∧ Rd h [0] [x] k ∧ aa k = some r) ?_ ?_
   ·rintro _ _ σ ⟨k, x, h, rfl, ae, rfl, r25, hm⟩
    rw [ac] at hm
    exact rg (mi rfl (Lw.add rfl (Ni rfl ((agm) ⟨k, w64 (i + 1), x, h, rfl, (I.j ae).w, rfl, r25, hm⟩))))
   ·refine Cw.block (sr (mv b rfl (mv a rfl (mi rfl ?_))))
    obtain ⟨aw, J, hm⟩ := ob hm
    refine Lw.r rfl (R.ix (α := Change) (d.ul f) J rfl rfl rfl) (Lw.fa rfl (Lw.r rfl (R.ld rfl rfl (Change.at1 ((d.ul f).at_ J)).str) (cr hm (fun _ => p148 r15) ?_)))
    rintro af C ah hm D ⟨_, rfl, ai⟩
    have L := ai.sub (M := [0]) rfl
    have aj := f.n D
    refine Nv C rfl (sr (mv a rfl (mi rfl ?_)))
    obtain ⟨ax, N, hm⟩ := ob hm
    have y := d.ul aj
    refine Lw.r rfl (R.ix (α := Change) y N rfl rfl rfl) (Lw.fa rfl (Lw.r rfl (R.ld rfl rfl (Change.at2 (y.at_ N)).str) (Lw.sne rfl (nl (cn hm (fun hm => ?_) fun hm => ?_)))))
    ·refine rg (mv C rfl (mv a rfl (mi rfl ?_)))
     obtain ⟨ay, O, hm⟩ := ob hm
     refine Lw.r rfl (R.ix (α := Change) y O rfl rfl rfl) (Lw.fa rfl (Lw.r rfl (R.ld rfl rfl (Change.at2 (y.at_ O)).str) (cr hm (fun _ => p148 L) ?_)))
     rintro ak P am hm an ⟨_, rfl, ao⟩
     have ap := ao.sub (M := [0]) rfl
     exact Nv P rfl ((ag) ⟨ak, P, am, rfl, (D.j an).w, rfl, ap, hm⟩)
    ·exact sk ((ag) ⟨af, C, ah, rfl, D, rfl, L, hm⟩)
  ·refine Cw.exit ?_
   rw [Z] at hm
   refine sr (mv b rfl (Nv b rfl ?_))
   cases hm
   exact Cw.ret (zhB rfl (Res.mk f ⟨b, rfl, r15⟩))
theorem p181 {x0 b r} (d : Rd W K [b] x0) (hm : Vm.zct x0 = some r) : Q1 181 [b] W [] fun W' v => ∃ a, v = a ∧ Rd W' (0 :: K) [a] r :=
 (c181 (d.view _) hm).ad (fk 0) fun _ _ ⟨a, e, f⟩ => ⟨a, e, f.back rfl⟩
theorem c146 {x0 b d x1 B r} (V : Rd W0 [0] [b, d] x0) (W : Rd W0 [0] [vS x1.Branch, vS x1.Into, vS x1.By, B] x1) (hm : Vm.zhu x0 x1 = some r) : Q0 146 [.agg [b, d].toArray, .agg [vS x1.Branch, vS x1.Into, vS x1.By, B].toArray] W0 fun Wf v => ∃ C, v = C ∧ Rd Wf [0] [C] r := by
 unfold Vm.zhu at hm
 obtain ⟨ay, az, D, e, f⟩ := Repo.split V
 simp only [List.cons.injEq, and_true, true_and] at D
 obtain ⟨rfl, rfl⟩ := D
 obtain ⟨a0, E, a1⟩ := Review.split W
 simp only [List.cons.injEq, and_true, true_and] at E
 obtain rfl := E
 refine zaj.of Tryz.func146 rfl rfl rfl rfl (sr (bo 2 rfl fun g1 W1 X F => ?_))
 have Y := X.o
 refine bo 3 rfl fun g3 W3 h G => ?_
 have i := Y.n h
 refine Nv (.slice none 0 0) rfl (sr (la (F.up h) (fl G rfl (ca hm (fun _ => p56 (Repo.rd (K := [0]) x0.Commits x0.Heads (e.ul i) (f.ul i))) fun z8 a9 hm l10 => ?_))))
 have k := i.n l10
 have H := (F.up h).up l10
 refine Ni rfl (sr (la H (fl (G.up l10) rfl (ca hm (fun _ => p56 (Repo.rd (K := [0]) x0.Commits x0.Heads (e.ul k) (f.ul k))) fun ba bb hm I => ?_))))
 have Z := k.n I
 refine Ni rfl (Cw.seq (Cw.draw [] [(0, 1), (1, 0), (2, 0), (4, 0), (5, 1), (6, 0), (7, 0), (8, 0), (9, 1), (3, 2), (10, 2), (11, 2), (12, 0)] mixed (by kernel_rfl) fun bc J => ?_))
 have x := Z.n J
 have L := (H.up I).up J
 refine Mw.q rfl rfl (fun _ c => R.lda (cs := [b, d]) (L.clcs rfl c) rfl rfl) (Di rfl (Di rfl (Dfl L rfl rfl rfl (Di rfl ?_))))
 obtain ⟨be, y, hm⟩ := ob hm
 have a := e.ul x
 refine Mw.p rfl rfl (fun _ => R.ix (α := Commit) a y rfl rfl rfl) (Df rfl ?_)
 obtain ⟨bg, c30, r31⟩ := (Commit.at2 (a.at_ y)).cell rfl
 refine Mw.q rfl rfl (fun _ c => R.ld rfl rfl (zah (Commit.at2 (a.at_ y)).1 rfl c30 c)) ?_
 obtain ⟨bh, aa, hm⟩ := ob hm
 refine Mw.t rfl rfl (T.call rfl (p82  (Repo.rd (K := [0]) x0.Commits x0.Heads a (f.ul x)) aa)) ?_
 rintro bi _ ⟨bj, rfl, N, ⟨_, rfl, ac⟩⟩
 have ae := ac.sub (M := [0]) rfl
 have O := N.o
 refine m0 N fun af => ?_
 obtain ⟨ah, ai, hm⟩ := ob hm
 refine Mw.t rfl rfl (T.call rfl (p182 (k0 := 4) ae (r31.ul O) ai)) ?_
 rintro aj _ ⟨bk, rfl, P, ⟨_, rfl, Q⟩⟩
 have ak := (x.trans O).n P
 refine mc af P fun am => ?_
 obtain ⟨an, ao, hm⟩ := ob hm
 refine Mw.t rfl rfl (T.call rfl (p181 (K := [4])  Q.rd ao)) ?_
 rintro z _ ⟨bl, rfl, A, ⟨_, rfl, ap⟩⟩
 have aq := ap.sub (M := [0, 4]) rfl
 have ar := ak.n A
 refine mc am A fun bm => Hv z rfl (Mw.nil ?_)
 obtain ⟨S, au, av, U⟩ := zp4 _ 4
 have aw : Rd S [0] [z] an := by rw [U]; exact (aq.dye 4).sub (M := [0]) rfl
 have bn : Rd (α := List Vm.Change) S [0] [aj] ah := by rw [U]; exact ((Q.up A).rd.dye 4).sub (M := [0]) rfl
 have ax := ar.t av
 cases hm
 rw [← au]
 exact Cw.ret (zhB rfl (Res.mk ax ⟨z, rfl, aw⟩))
theorem p146 {x0 b d x1 f r} (h : Rd W K [b, d] x0) (i : Rd W K [vS x1.Branch, vS x1.Into, vS x1.By, f] x1) (hm : Vm.zhu x0 x1 = some r) : Q1 146 [.agg [b, d].toArray, .agg [vS x1.Branch, vS x1.Into, vS x1.By, f].toArray] W [] fun W' v => ∃ a, v = a ∧ Rd W' (0 :: K) [a] r :=
 (c146 (h.view _) (i.view _) hm).ad (fk 0) fun _ _ ⟨a, e, k⟩ => ⟨a, e, k.back rfl⟩
theorem c147 {x0 a x1 r} (k : Rd W0 [0] [a] x0) (hm : Vm.zhd x0 x1 = some r) : Q0 147 [a, vS x1] W0 fun Wf v => v = vS r := by
 unfold Vm.zhd at hm
 refine zaj.of Tryz.func147 rfl rfl rfl rfl (sr (Ns rfl (sr (Ns rfl (sr (Ni rfl (ssr (Ni rfl (Cw.block ?_)))))))))
 obtain ⟨Q, S, hm⟩ := zaS hm
 refine Cw.loop 8 50 [5, 6, 7] (fun m l w => ∃ x d y e, CW.w e = w ∧ Le [] W0 e ∧ l = [vS x, vI d, vI y] ∧ Vm.zdH x0 x1 Q m x d y = some r) _ ⟨([] : Str), 0, 0, W0, rfl, Le.refl _ _, rfl, hm⟩ ?_
 rintro (_ | m6) _ _ σ ⟨x, d, y, e, rfl, H, rfl, hm⟩
 ·cases hm
 unfold Vm.zdH at hm
 have z := H.o
 refine ssr ?_
 have b := k.ul z
 refine mi rfl (mv a rfl (Lw.ln x0 b rfl (Lw.lt rfl (nl (cn hm (fun hm => ?_) fun hm => ?_)))))
 ·refine sk ?_
  obtain ⟨T, U, hm⟩ := zaS hm
  refine Cw.join 14 50 [5, 6] (fun l w => ∃ A B C, CW.w C = w ∧ Le [] e C ∧ l = [vS A, vI B] ∧ T A B = some r) ?_ ?_
  ·rintro _ _ σ ⟨A, B, C, rfl, V, rfl, hm⟩
   rw [U] at hm
   exact rg (mi rfl (Lw.add rfl (Ni rfl ((agm) ⟨A, B, w64 (y + 1), C, rfl, (H.j V).w, rfl, hm⟩))))
  ·refine Cw.block ?_
   obtain ⟨W, X, hm⟩ := zaS hm
   refine Cw.join 14 39 [39] (fun l w => ∃ E f, CW.w f = w ∧ Le [] e f ∧ l = [vB E] ∧ W E = some r) ?_ ?_
   ·rintro _ _ σ ⟨E, f, rfl, F, rfl, hm⟩
    rw [X] at hm
    have Y := z.n F
    refine cn hm (fun hm => ?_) fun hm => ?_
    ·refine sr (mv a rfl (mi rfl ?_))
     obtain ⟨Z, I, hm⟩ := ob hm
     have D := k.ul Y
     refine Lw.r rfl (R.ix (α := Owner) D I rfl rfl rfl) (Lw.fa rfl (Lw.r rfl (R.ld rfl rfl (Owner.at1 (D.at_ I)).str) (Ns rfl (rg (mv a rfl (mi rfl ?_))))))
     obtain ⟨aa, J, hm⟩ := ob hm
     exact Lw.r rfl (R.ix (α := Owner) D J rfl rfl rfl) (Lw.fa rfl (Lw.r rfl (R.ld rfl rfl (Owner.at0 (D.at_ J)).str) (Lw.r rfl (R.lenS rfl) (Ni rfl ((ag) ⟨Z.Who, (aa.Path.length : Int), f, rfl, F, rfl, hm⟩)))))
    ·exact sk ((ag) ⟨x, d, f, rfl, F, rfl, hm⟩)
   ·refine rg (mv a rfl (mi rfl ?_))
    obtain ⟨ah, K, hm⟩ := ob hm
    refine Lw.r rfl (R.ix (α := Owner) b K rfl rfl rfl) (Lw.fa rfl (Lw.r rfl (R.ld rfl rfl (Owner.at0 (b.at_ K)).str) (ms rfl (Lw.seq rfl (mb rfl (bs hm (fun h hm => ?_) fun h hm => ?_))))))
    ·refine psk 7 h rfl (Pb h rfl (mb rfl (wak 8 rfl (mv a rfl (mi rfl ?_)))))
     obtain ⟨ac, L, hm⟩ := ob hm
     exact Lw.r rfl (R.ix (α := Owner) b L rfl rfl rfl) (Lw.fa rfl (Lw.r rfl (R.ld rfl rfl (Owner.at0 (b.at_ L)).str) (Lw.r rfl (R.lenS rfl) (mi rfl (Lw.gt rfl (Pb rfl rfl (nl ((ag) ⟨decide ((d : Int) < ((ac.Path.length : Int) : Int)), e, rfl, Le.refl _ _, rfl, hm⟩))))))))
    ·refine wak 7 h (mv a rfl (mi rfl ?_))
     obtain ⟨ai, M, hm⟩ := ob hm
     refine Lw.r rfl (R.ix (α := Owner) b M rfl rfl rfl) (Lw.fa rfl (Lw.r rfl (R.ld rfl rfl (Owner.at0 (b.at_ M)).str) (ms rfl (ca hm (fun _ => p167) fun aj N hm G => ?_))))
     have O := z.n G
     refine Pb h rfl (mb rfl (bs hm (fun i hm => ?_) fun i hm => ?_))
     ·refine wak 8 i (mv a rfl (mi rfl ?_))
      obtain ⟨ae, P, hm⟩ := ob hm
      exact Lw.r rfl (R.ix (α := Owner) (k.ul O) P rfl rfl rfl) (Lw.fa rfl (Lw.r rfl (R.ld rfl rfl (Owner.at0 ((k.ul O).at_ P)).str) (Lw.r rfl (R.lenS rfl) (mi rfl (Lw.gt rfl (Pb i rfl (nl ((ag) ⟨decide ((d : Int) < ((ae.Path.length : Int) : Int)), N, rfl, G, rfl, hm⟩))))))))
     ·exact psk 8 i rfl (Pb i rfl (nl ((ag) ⟨false, N, rfl, G, rfl, hm⟩)))
 ·refine Cw.exit ?_
  rw [S] at hm
  exact sr (ms rfl (Ns rfl (.ret (rt hm z))))
theorem p147 {x0 a x1 r} (b : Rd W K [a] x0) (hm : Vm.zhd x0 x1 = some r) : Q1 147 [a, vS x1] W [] fun W' v => v = vS r :=
 (c147 (b.view _) hm).ad (fk 0) fun _ _ e => e
end Go.Sx
