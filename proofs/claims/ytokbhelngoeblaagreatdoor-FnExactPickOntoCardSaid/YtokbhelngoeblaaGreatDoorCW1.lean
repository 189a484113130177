/- Walks: each function answers as its model, printed by a program of ours. Conditions: the arguments read as they are given. -/
import Derived.Test.YtokbhelngoeblaaGreatDoorCTs
import Derived.Test.YtokbhelngoeblaaGreatDoorCM0
import Derived.Test.YtokbhelngoeblaaGreatDoorCE
namespace Go.Sx
open Go Go.Proofs Go.Vm Rp
set_option linter.unusedVariables false
set_option linter.unusedSimpArgs false
variable {W W0 : CW} {K : List Nat}
theorem c252 {x0 z x1 A r} (B : Rd W0 [0] [z] x0) (C : Rd W0 [0] [A] x1) (hm : Vm.zfm x0 x1 = some r) : Q0 252 [z, A] W0 fun Wf v => ∃ u0, v = u0 ∧ OwS Wf LL [] [u0] r := by
 unfold Vm.zfm at hm
 refine zau.of Tryz.func252 rfl rfl rfl rfl (sr (Nv (.slice none 0 0) rfl (sr (Lw.t rfl (T.lit0 (α := List Int) 2 []) ?_))))
 rintro v1 _ ⟨W1, rfl, l1, o1⟩
 have a2 := l1.o
 refine Nv v1 rfl (ssr (Ni rfl (Cw.block ?_)))
 obtain ⟨K8, bh, hm⟩ := zbk hm
 refine Cw.loop 10 22 [5, 6] (fun m l w => ∃ G H a h, CW.w h = w ∧ Le [2, 3] W1 h ∧ l = [a, vI H] ∧ Ow h 2 [] [a] G ∧ Vm.zb2 x0 x1 K8 m G H = some r) _ ⟨([] : List (List Int)), 0, v1, W1, rfl, Le.refl _ _, rfl, o1, hm⟩ ?_
 rintro (_ | m9) _ _ σ ⟨G, H, a, h, rfl, l7, rfl, o5, hm⟩
 ·cases hm
 unfold Vm.zb2 at hm
 have I := a2.t l7
 refine ssr (mi rfl (mv z rfl (Lw.ln x0 (B.ul I) rfl (Lw.le rfl (nl (cn hm (fun hm => ?_) fun hm => ?_))))))
 ·refine sk (Cw.seq (Cw.block (rg (mv a rfl (mv A rfl (Lw.ln x1 (C.ul I) rfl (Lw.add rfl ?_)))))))
  obtain ⟨c5, bi, hm⟩ := ob hm
  refine Lw.t rfl (T.mk (α := Int) 3 [] (n := w64 ((x1.length : Int) + 1)) rfl rfl bi) ?_
  rintro av _ ⟨c6, rfl, aw, Q⟩
  refine Lw.t rfl (T.bs 4 [av] (cs := [av]) (bsc Q.oc) rfl (bsv Q.oc)) ?_
  rintro _ _ ⟨c7, c8, rfl, rfl, S, bj⟩
  obtain ⟨bk, bl, hm⟩ := ob hm
  refine Lw.t rfl (T.app1 (α := List Int) (J := [3]) (K' := []) ((o5.up aw).up S) bj (Q.up S).s rfl rfl bl) ?_
  rintro ax _ ⟨bm, rfl, bn, bp⟩
  exact Nv ax rfl (rg (mi rfl (Lw.add rfl (Ni rfl ((agm) ⟨bk, w64 (H + 1), ax, bm, rfl, (((l7.j aw).j S).j bn).w, rfl, bp, hm⟩)))))
 ·refine Cw.exit ?_
  rw [bh] at hm
  refine ssr (mv z rfl (Lw.ln x0 (B.ul I) rfl (Lw.sub rfl (Ni rfl (Cw.block ?_)))))
  obtain ⟨bq, br, hm⟩ := zbk hm
  refine Cw.loop 26 108 [7, 8] (fun m l w => ∃ D K ay i, CW.w i = w ∧ Le [2, 5, 6, 7] h i ∧ l = [vI D, ay] ∧ Ow i 2 [] [a] K ∧ Vm.zbm x0 x1 bq m D K = some r) _ ⟨w64 ((x0.length : Int) - 1), G, undef, h, rfl, Le.refl _ _, rfl, o5, hm⟩ ?_
  rintro (_ | c9) _ _ σ ⟨D, K, ay, i, rfl, az, rfl, a0, hm⟩
  ·cases hm
  unfold Vm.zbm at hm
  have U := I.t az
  refine ssr (mi rfl (Lw.ge rfl (nl (cn hm (fun hm => ?_) fun hm => ?_))))
  ·refine sk (Cw.seq (Cw.block (sr (mv A rfl (Lw.ln x1 (C.ul U) rfl (Lw.sub rfl (Ni rfl (Cw.block ?_))))))))
   obtain ⟨bu, bv, hm⟩ := zbk hm
   refine Cw.loop 33 108 [8] (fun m l w => ∃ E L k, CW.w k = w ∧ Le [2, 5, 6, 7] i k ∧ l = [vI E] ∧ Ow k 2 [] [a] L ∧ Vm.zb1 x0 x1 D bu m E L = some r) _ ⟨w64 ((x1.length : Int) - 1), K, i, rfl, Le.refl _ _, rfl, a0, hm⟩ ?_
   rintro (_ | da) _ _ σ ⟨E, L, k, rfl, V, rfl, W, hm⟩
   ·cases hm
   unfold Vm.zb1 at hm
   have bw := U.t V
   refine ssr (mi rfl (Lw.ge rfl (nl (cn hm (fun hm => ?_) fun hm => ?_))))
   ·refine sk ?_
    obtain ⟨bz, b0, hm⟩ := zbk hm
    refine Cw.join 37 108 [] (fun l w => ∃ M F, CW.w F = w ∧ Le [2, 5, 6, 7] k F ∧ l = [] ∧ Ow F 2 [] [a] M ∧ bz M = some r) ?_ ?_
    ·rintro _ _ σ ⟨M, F, rfl, b1, rfl, b2, hm⟩
     rw [b0] at hm
     exact rg (mi rfl (Lw.sub rfl (Ni rfl ((agm) ⟨w64 (E - 1), M, F, rfl, (V.j b1).w, rfl, b2, hm⟩))))
    ·refine Cw.block (Cw.block (Cw.seq (Cw.draw [] [(0, 0), (1, 0), (2, 0), (3, 1), (4, 0), (5, 0), (6, 0), (7, 1), (8, 0), (9, 0)] mixed (by kernel_rfl) fun db x => ?_)))
     have y := bw.n x
     refine Dv z rfl (Di rfl ?_)
     obtain ⟨dc, X, hm⟩ := ob hm
     refine Mw.p rfl rfl (fun _ => R.ix (α := Str) (B.ul y) X rfl rfl rfl) (Mw.q rfl rfl (fun _ c => R.ld rfl rfl (zaz ((B.ul y).at_ X).1 rfl ((B.ul y).at_ X).str c)) (Dv A rfl (Di rfl ?_)))
     obtain ⟨dd, Y, hm⟩ := ob hm
     refine Mw.p rfl rfl (fun _ => R.ix (α := Str) (C.ul y) Y rfl rfl rfl) (Mw.q rfl rfl (fun _ c => R.ld rfl rfl (zaz ((C.ul y).at_ Y).1 rfl ((C.ul y).at_ Y).str c)) (Mw.p rfl rfl (fun _ => R.seq rfl rfl) (Hb rfl (Mw.nil (cn hm (fun hm => ?_) fun hm => ?_)))))
     ·refine Cw.draw [] [(0, 0), (1, 0), (2, 0), (3, 1), (4, 0), (5, 0), (6, 0), (7, 0), (8, 0), (9, 1), (10, 0), (11, 0), (12, 0), (13, 1), (14, 0), (15, 0), (16, 3)] mixed (by kernel_rfl) fun de a1 => ?_
      have d := (W.up x).up a1
      refine Dv a rfl (Di rfl ?_)
      obtain ⟨u64, N, hm⟩ := ob hm
      refine Mw.p rfl rfl (fun _ => R.ix (α := List Int) d.rd N rfl rfl rfl) ?_
      obtain ⟨df, c67, r68⟩ := (d.rd.at_ N).cell rfl
      refine Mw.q rfl rfl (fun _ c => R.ld rfl rfl (zaz (d.rd.at_ N).1 rfl c67 c)) (Di rfl (Dv a rfl (Di rfl (Mw.p rfl rfl (fun _ => R.add rfl rfl) ?_))))
      obtain ⟨dg, Z, hm⟩ := ob hm
      refine Mw.p rfl rfl (fun _ => R.ix (α := List Int) d.rd Z rfl rfl rfl) ?_
      obtain ⟨dh, c72, r73⟩ := (d.rd.at_ Z).cell rfl
      refine Mw.q rfl rfl (fun _ c => R.ld rfl rfl (zaz (d.rd.at_ Z).1 rfl c72 c)) (Di rfl (Mw.p rfl rfl (fun _ => R.add rfl rfl) ?_))
      obtain ⟨di, aa, hm⟩ := ob hm
      refine Mw.p rfl rfl (fun _ => R.ix (α := Int) r73 aa rfl rfl rfl) (Mw.q rfl rfl (fun _ c => R.ld rfl rfl (zaz (r73.at_ aa).1 rfl (r73.at_ aa).int c)) (Mw.p rfl rfl (fun _ => R.add rfl rfl) ?_))
      obtain ⟨dj, b3, hm⟩ := ob hm
      refine Mw.p rfl rfl (fun _ => R.ix (α := Int) r68 b3 rfl rfl rfl) ?_
      obtain ⟨dk, b4, b5, b6, gb78⟩ := Ow.lend (α := List Int) (β := List Int) (j := 5) (jf := 0) d N (by rw [zmX]; exact c67) rfl
      rw [← b4]
      obtain ⟨dl, b7, hm⟩ := ob hm
      refine Mw.lu rfl (T.stS (K' := []) b6 (rdI _) b7 rfl rfl rfl) ?_
      rintro _ _ ⟨dm, rfl, a3, b8⟩
      obtain ⟨b9, cb, cc, cd, eq85, ce⟩ := gb78 _ _ a3 b8
      obtain ⟨a4, eqm85, hm⟩ := ob hm
      obtain rfl : a4 = cd := Option.some.inj (eqm85.symm.trans eq85)
      rw [← cb]
      exact Mw.nil ((ag) ⟨a4, b9, rfl, ((((x.j a1).j b5).j a3).j cc).w, rfl, ce, hm⟩)
     ·refine Cw.seq (Cw.draw [] [(0, 0), (1, 0), (2, 0), (3, 0), (4, 1), (5, 0), (6, 0), (7, 1), (8, 0), (9, 0), (10, 0), (11, 1), (12, 0), (13, 0), (14, 0), (15, 1), (16, 0), (17, 0)] mixed (by kernel_rfl) fun dn ac => ?_)
      have b := (W.up x).up ac
      refine Dv a rfl (Di rfl (Mw.p rfl rfl (fun _ => R.add rfl rfl) ?_))
      obtain ⟨dp, ae, hm⟩ := ob hm
      refine Mw.p rfl rfl (fun _ => R.ix (α := List Int) b.rd ae rfl rfl rfl) ?_
      obtain ⟨dq, c93, r94⟩ := (b.rd.at_ ae).cell rfl
      refine Mw.q rfl rfl (fun _ c => R.ld rfl rfl (zaz (b.rd.at_ ae).1 rfl c93 c)) (Di rfl ?_)
      obtain ⟨dr, af, hm⟩ := ob hm
      refine Mw.p rfl rfl (fun _ => R.ix (α := Int) r94 af rfl rfl rfl) (Mw.q rfl rfl (fun _ c => R.ld rfl rfl (zaz (r94.at_ af).1 rfl (r94.at_ af).int c)) (Dv a rfl (Di rfl ?_)))
      obtain ⟨ds, ah, hm⟩ := ob hm
      refine Mw.p rfl rfl (fun _ => R.ix (α := List Int) b.rd ah rfl rfl rfl) ?_
      obtain ⟨dt, c100, r101⟩ := (b.rd.at_ ah).cell rfl
      refine Mw.q rfl rfl (fun _ c => R.ld rfl rfl (zaz (b.rd.at_ ah).1 rfl c100 c)) (Di rfl (Mw.p rfl rfl (fun _ => R.add rfl rfl) ?_))
      obtain ⟨du, ai, hm⟩ := ob hm
      refine Mw.p rfl rfl (fun _ => R.ix (α := Int) r101 ai rfl rfl rfl) (Mw.q rfl rfl (fun _ c => R.ld rfl rfl (zaz (r101.at_ ai).1 rfl (r101.at_ ai).int c)) (Mw.p rfl rfl (fun _ => R.ge rfl rfl) (Hb rfl (Mw.nil (cn hm (fun hm => ?_) fun hm => ?_)))))
      ·refine Cw.draw [] [(0, 0), (1, 0), (2, 0), (3, 1), (4, 0), (5, 0), (6, 0), (7, 0), (8, 0), (9, 1), (10, 0), (11, 0), (12, 1), (13, 0), (14, 3)] mixed (by kernel_rfl) fun dv a5 => ?_
       have e := b.up a5
       refine Dv a rfl (Di rfl ?_)
       obtain ⟨dw, O, hm⟩ := ob hm
       refine Mw.p rfl rfl (fun _ => R.ix (α := List Int) e.rd O rfl rfl rfl) ?_
       obtain ⟨dx, c111, r112⟩ := (e.rd.at_ O).cell rfl
       refine Mw.q rfl rfl (fun _ c => R.ld rfl rfl (zaz (e.rd.at_ O).1 rfl c111 c)) (Di rfl (Dv a rfl (Di rfl (Mw.p rfl rfl (fun _ => R.add rfl rfl) ?_))))
       obtain ⟨dy, aj, hm⟩ := ob hm
       refine Mw.p rfl rfl (fun _ => R.ix (α := List Int) e.rd aj rfl rfl rfl) ?_
       obtain ⟨dz, c116, r117⟩ := (e.rd.at_ aj).cell rfl
       refine Mw.q rfl rfl (fun _ c => R.ld rfl rfl (zaz (e.rd.at_ aj).1 rfl c116 c)) (Di rfl ?_)
       obtain ⟨d0, ak, hm⟩ := ob hm
       refine Mw.p rfl rfl (fun _ => R.ix (α := Int) r117 ak rfl rfl rfl) (Mw.q rfl rfl (fun _ c => R.ld rfl rfl (zaz (r117.at_ ak).1 rfl (r117.at_ ak).int c)) ?_)
       obtain ⟨d1, cf, hm⟩ := ob hm
       refine Mw.p rfl rfl (fun _ => R.ix (α := Int) r112 cf rfl rfl rfl) ?_
       obtain ⟨d2, cg, ch, ci, gb122⟩ := Ow.lend (α := List Int) (β := List Int) (j := 6) (jf := 0) e O (by rw [zmX]; exact c111) rfl
       rw [← cg]
       obtain ⟨d3, cj, hm⟩ := ob hm
       refine Mw.lu rfl (T.stS (K' := []) ci (rdI _) cj rfl rfl rfl) ?_
       rintro _ _ ⟨d4, rfl, a6, ck⟩
       obtain ⟨cl, cm, co, cp, eq129, cq⟩ := gb122 _ _ a6 ck
       obtain ⟨a7, eqm129, hm⟩ := ob hm
       obtain rfl : a7 = cp := Option.some.inj (eqm129.symm.trans eq129)
       rw [← cm]
       exact Mw.nil ((ag) ⟨a7, cl, rfl, (((((x.j ac).j a5).j ch).j a6).j co).w, rfl, cq, hm⟩)
      ·refine Cw.draw [] [(0, 0), (1, 0), (2, 0), (3, 1), (4, 0), (5, 0), (6, 0), (7, 0), (8, 1), (9, 0), (10, 0), (11, 0), (12, 1), (13, 0), (14, 3)] mixed (by kernel_rfl) fun d5 a8 => ?_
       have f := b.up a8
       refine Dv a rfl (Di rfl ?_)
       obtain ⟨d6, P, hm⟩ := ob hm
       refine Mw.p rfl rfl (fun _ => R.ix (α := List Int) f.rd P rfl rfl rfl) ?_
       obtain ⟨d7, c137, r138⟩ := (f.rd.at_ P).cell rfl
       refine Mw.q rfl rfl (fun _ c => R.ld rfl rfl (zaz (f.rd.at_ P).1 rfl c137 c)) (Di rfl (Dv a rfl (Di rfl ?_)))
       obtain ⟨d8, am, hm⟩ := ob hm
       refine Mw.p rfl rfl (fun _ => R.ix (α := List Int) f.rd am rfl rfl rfl) ?_
       obtain ⟨d9, c142, r143⟩ := (f.rd.at_ am).cell rfl
       refine Mw.q rfl rfl (fun _ c => R.ld rfl rfl (zaz (f.rd.at_ am).1 rfl c142 c)) (Di rfl (Mw.p rfl rfl (fun _ => R.add rfl rfl) ?_))
       obtain ⟨ea, an, hm⟩ := ob hm
       refine Mw.p rfl rfl (fun _ => R.ix (α := Int) r143 an rfl rfl rfl) (Mw.q rfl rfl (fun _ c => R.ld rfl rfl (zaz (r143.at_ an).1 rfl (r143.at_ an).int c)) ?_)
       obtain ⟨eb, ct, hm⟩ := ob hm
       refine Mw.p rfl rfl (fun _ => R.ix (α := Int) r138 ct rfl rfl rfl) ?_
       obtain ⟨ec, cu, cv, cw, gb148⟩ := Ow.lend (α := List Int) (β := List Int) (j := 7) (jf := 0) f P (by rw [zmX]; exact c137) rfl
       rw [← cu]
       obtain ⟨ed, cx, hm⟩ := ob hm
       refine Mw.lu rfl (T.stS (K' := []) cw (rdI _) cx rfl rfl rfl) ?_
       rintro _ _ ⟨ee, rfl, a9, cy⟩
       obtain ⟨cz, c0, c1, c2, eq155, c3⟩ := gb148 _ _ a9 cy
       obtain ⟨ba, eqm155, hm⟩ := ob hm
       obtain rfl : ba = c2 := Option.some.inj (eqm155.symm.trans eq155)
       rw [← c0]
       exact Mw.nil ((ag) ⟨ba, cz, rfl, (((((x.j ac).j a8).j cv).j a9).j c1).w, rfl, c3, hm⟩)
   ·refine Cw.exit ?_
    rw [bv] at hm
    exact rg (mi rfl (Lw.sub rfl (Ni rfl ((agm) ⟨w64 (D - 1), L, vI E, k, rfl, (az.j V).w, rfl, W, hm⟩))))
  ·refine Cw.exit ?_
   rw [br] at hm
   refine sr (mv a rfl (Nv a rfl ?_))
   cases hm
   exact Cw.ret (zjQ rfl (Res.mk U ⟨a, rfl, a0.s.sub rfl rfl⟩))
theorem p252 {x0 b x1 d k0 r} (f : Rd W K [b] x0) (h : Rd W K [d] x1) (hm : Vm.zfm x0 x1 = some r) : Q1 252 [b, d] W [] fun W' v => ∃ a, v = a ∧ Ow W' k0 [] [a] r :=
 (c252 (f.view _) (h.view _) hm).ad (fk k0) fun _ _ ⟨a, e, i⟩ => ⟨a, e, i.back (ziE _)⟩
theorem c224 {x0 x x1 i r} (y : Rd W0 [0] [x] x0) (I : Rd W0 [0] [i] x1) (hm : Vm.zek x0 x1 = some r) : Q0 224 [x, i] W0 fun Wf v => ∃ X, v = X ∧ OwS Wf LL [] [X] r := by
 unfold Vm.zek at hm
 refine zau.of Tryz.func224 rfl rfl rfl rfl (sr (Nv (.slice none 0 0) rfl (sr (mv x rfl (mv i rfl (cr hm (fun _ => p252 (k0 := 2) y I) ?_))))))
 rintro z1 J W3 hm l3 ⟨_, rfl, au⟩
 have a4 := l3.o
 refine Nv J rfl (sr (Lw.t rfl (T.lit0 (α := Int) 3 []) ?_))
 rintro Y _ ⟨Z, rfl, l5, o5⟩
 have a6 := a4.n l5
 refine Nv Y rfl (sr (Ni rfl (ssr (Ni rfl (Cw.block ?_)))))
 obtain ⟨ay, az, hm⟩ := zbk hm
 refine Cw.loop 13 71 [6, 7, 8] (fun m l w => ∃ B d e f z, CW.w z = w ∧ Le [3] Z z ∧ l = [f, vI d, vI e] ∧ Ow z 3 [] [f] B ∧ Vm.zcR x0 x1 z1 ay m B d e = some r) _ ⟨([] : List Int), 0, 0, Y, Z, rfl, Le.refl _ _, rfl, o5, hm⟩ ?_
 rintro (_ | bn) _ _ σ ⟨B, d, e, f, z, rfl, A, rfl, K, hm⟩
 ·cases hm
 unfold Vm.zcR at hm
 have C := a6.t A
 refine ssr (mi rfl (mv x rfl (Lw.ln x0 (y.ul C) rfl (Lw.lt rfl (nl (cn hm (fun hm => ?_) fun hm => ?_))))))
 ·refine sk (Cw.block (Cw.block ?_))
  obtain ⟨a0, a1, hm⟩ := zbk hm
  refine Cw.join 19 34 [19] (fun l w => ∃ L D, CW.w D = w ∧ Le [] z D ∧ l = [vB L] ∧ a0 L = some r) ?_ ?_
  ·rintro _ _ σ ⟨L, D, rfl, h, rfl, hm⟩
   rw [a1] at hm
   have a2 := C.n h
   refine cn hm (fun hm => ?_) fun hm => ?_
   ·refine sr (mv f rfl (mi rfl (Lw.t rfl (T.bs 4 [vI d] (cs := [vI d]) rfl rfl (bsv rfl)) ?_)))
    rintro _ _ ⟨bp, bq, rfl, rfl, ac, a3⟩
    obtain ⟨a5, a7, hm⟩ := ob hm
    refine Lw.t rfl (T.app1S (α := Int) (K' := []) ((K.up h).up ac) a3 (rdI _) rfl rfl a7) ?_
    rintro ae _ ⟨a8, rfl, a9, ba⟩
    exact Nv ae rfl (sr (mi rfl (Lw.add rfl (Ni rfl (rg (mi rfl (Lw.add rfl (Ni rfl ((agm) ⟨a5, w64 (d + 1), w64 (e + 1), ae, a8, rfl, (((A.j h).j ac).j a9).w, rfl, ba, hm⟩)))))))))
   ·obtain ⟨bb, bc, hm⟩ := zbk hm
    refine Cw.join 43 66 [43] (fun l w => ∃ M E, CW.w E = w ∧ Le [] D E ∧ l = [vB M] ∧ bb M = some r) ?_ ?_
    ·rintro _ _ σ ⟨M, E, rfl, N, rfl, hm⟩
     rw [bc] at hm
     have af := (K.up h).up N
     refine cn hm (fun hm => ?_) fun hm => ?_
     ·refine sr (mv f rfl (Lw.t rfl (T.bs 5 [vI (-1)] (cs := [vI (-1)]) rfl rfl (bsv rfl)) ?_))
      rintro _ _ ⟨br, bu, rfl, rfl, ah, be⟩
      obtain ⟨bg, bh, hm⟩ := ob hm
      refine Lw.t rfl (T.app1S (α := Int) (K' := []) (af.up ah) be (rdI _) rfl rfl bh) ?_
      rintro ai _ ⟨bi, rfl, bj, bk⟩
      exact Nv ai rfl (rg (mi rfl (Lw.add rfl (Ni rfl ((agm) ⟨bg, d, w64 (e + 1), ai, bi, rfl, ((((A.j h).j N).j ah).j bj).w, rfl, bk, hm⟩)))))
     ·exact rg (mi rfl (Lw.add rfl (Ni rfl ((agm) ⟨B, w64 (d + 1), e, f, E, rfl, ((A.j h).j N).w, rfl, af, hm⟩))))
    ·refine Cw.draw [] [(0, 0), (1, 0), (2, 0), (3, 0), (4, 0), (5, 0), (6, 0), (7, 0), (8, 0), (9, 1), (10, 0), (11, 0), (12, 1), (13, 0), (14, 0), (15, 0), (16, 1), (17, 0), (18, 0), (19, 0), (20, 1), (21, 0), (22, 0), (23, 0)] mixed (by kernel_rfl) fun aj F => ?_
     have bl := a2.n F
     have k := (((au.up l5).up A).up h).up F
     refine Di rfl (Dv i rfl (Mw.p rfl rfl (fun _ => zt4 (xs := x1) (I.ul bl) rfl) (Mw.p rfl rfl (fun _ => R.ge rfl rfl) (Db rfl (bs hm (fun a hm => ?_) fun a hm => ?_)))))
     ·exact dps 17 a rfl (Mw.p rfl rfl (fun _ => R.pk a rfl (v := vB true) rfl) (Hb rfl (Mw.nil ((ag) ⟨true, aj, rfl, F, rfl, hm⟩))))
     ·refine Wp a rfl (fun _ => R.mv (v := J) rfl) (Wp a rfl (fun _ => R.mv (v := vI e) rfl) (Wp a rfl (fun _ => R.add rfl rfl) ?_))
      obtain ⟨bv, O, hm⟩ := ob hm
      refine Wp a rfl (fun _ => R.ix (α := List Int) k.rd O rfl rfl rfl) ?_
      obtain ⟨bw, c63, r64⟩ := (k.rd.at_ O).cell rfl
      refine Wq a rfl (fun _ c => R.ld rfl rfl (zaz (k.rd.at_ O).1 rfl c63 c)) (Wp a rfl (fun _ => R.mv (v := vI d) rfl) ?_)
      obtain ⟨ak, P, hm⟩ := ob hm
      refine Wp a rfl (fun _ => R.ix (α := Int) r64 P rfl rfl rfl) (Wq a rfl (fun _ c => R.ld rfl rfl (zaz (r64.at_ P).1 rfl (r64.at_ P).int c)) (Wp a rfl (fun _ => R.mv (v := J) rfl) (Wp a rfl (fun _ => R.mv (v := vI e) rfl) ?_)))
      obtain ⟨bz, Q, hm⟩ := ob hm
      refine Wp a rfl (fun _ => R.ix (α := List Int) k.rd Q rfl rfl rfl) ?_
      obtain ⟨b0, c70, r71⟩ := (k.rd.at_ Q).cell rfl
      refine Wq a rfl (fun _ c => R.ld rfl rfl (zaz (k.rd.at_ Q).1 rfl c70 c)) (Wp a rfl (fun _ => R.mv (v := vI d) rfl) (Wp a rfl (fun _ => R.add rfl rfl) ?_))
      obtain ⟨am, S, hm⟩ := ob hm
      exact Wp a rfl (fun _ => R.ix (α := Int) r71 S rfl rfl rfl) (Wq a rfl (fun _ c => R.ld rfl rfl (zaz (r71.at_ S).1 rfl (r71.at_ S).int c)) (Wp a rfl (fun _ => R.ge rfl rfl) (Mw.p rfl rfl (fun _ => R.pk a rfl (v := vB (decide ((am : Int) ≤ (ak : Int)))) rfl) (Hb rfl (Mw.nil ((ag) ⟨decide ((am : Int) ≤ (ak : Int)), aj, rfl, F, rfl, hm⟩))))))
  ·refine Cw.draw [] [(0, 0), (1, 0), (2, 0), (3, 0), (4, 0), (5, 0), (6, 0), (7, 0), (8, 1), (9, 0), (10, 0), (11, 0), (12, 1), (13, 0), (14, 0), (15, 0)] mixed (by kernel_rfl) fun an U => ?_
   have G := C.n U
   have H := I.ul G
   refine Di rfl (Dv i rfl (Mw.p rfl rfl (fun _ => zt4 (xs := x1) H rfl) (Mw.p rfl rfl (fun _ => R.lt rfl rfl) (Db rfl (bs hm (fun b hm => ?_) fun b hm => ?_)))))
   ·refine Wp b rfl (fun _ => R.mv (v := x) rfl) (Wp b rfl (fun _ => R.mv (v := vI e) rfl) ?_)
    obtain ⟨ao, V, hm⟩ := ob hm
    refine Wp b rfl (fun _ => R.ix (α := Str) (y.ul G) V rfl rfl rfl) (Wq b rfl (fun _ c => R.ld rfl rfl (zaz ((y.ul G).at_ V).1 rfl ((y.ul G).at_ V).str c)) (Wp b rfl (fun _ => R.mv (v := i) rfl) (Wp b rfl (fun _ => R.mv (v := vI d) rfl) ?_)))
    obtain ⟨ap, W, hm⟩ := ob hm
    exact Wp b rfl (fun _ => R.ix (α := Str) H W rfl rfl rfl) (Wq b rfl (fun _ c => R.ld rfl rfl (zaz (H.at_ W).1 rfl (H.at_ W).str c)) (Wp b rfl (fun _ => R.seq rfl rfl) (Mw.p rfl rfl (fun _ => R.pk b rfl (v := vB (ao == ap)) rfl) (Hb rfl (Mw.nil ((ag) ⟨(ao == ap), an, rfl, U, rfl, hm⟩))))))
   ·exact dps 9 b rfl (Mw.p rfl rfl (fun _ => R.pk b rfl (v := vB false) rfl) (Hb rfl (Mw.nil ((ag) ⟨false, an, rfl, U, rfl, hm⟩))))
 ·refine Cw.exit ?_
  rw [az] at hm
  refine sr (mv f rfl (Nv f rfl ?_))
  cases hm
  exact Cw.ret (zjQ rfl (Res.mk C ⟨f, rfl, K.s.sub rfl rfl⟩))
theorem p224 {x0 b x1 d k0 r} (f : Rd W K [b] x0) (h : Rd W K [d] x1) (hm : Vm.zek x0 x1 = some r) : Q1 224 [b, d] W [] fun W' v => ∃ a, v = a ∧ Ow W' k0 [] [a] r :=
 (c224 (f.view _) (h.view _) hm).ad (fk k0) fun _ _ ⟨a, e, i⟩ => ⟨a, e, i.back (ziE _)⟩
theorem c86 {x0 x1 x2 r} (hm : Vm.zfj x0 x1 x2 = some r) : Q0 86 [vI x0, vI x1, vI x2] W0 fun Wf v => v = vB r := by
 unfold Vm.zfj at hm
 refine zau.of Tryz.func86 rfl rfl rfl rfl (sr (Nb rfl ?_))
 obtain ⟨e, f, hm⟩ := zbk hm
 refine Cw.join 7 14 [6] (fun l w => ∃ b d, CW.w d = w ∧ Le [] W0 d ∧ l = [vB b] ∧ e b = some r) ?_ ?_
 ·rintro _ _ σ ⟨b, d, rfl, h, rfl, hm⟩
  rw [f] at hm
  have i := h.o
  exact .ret (rt hm i)
 ·refine rg (mi rfl (mi rfl (Lw.le rfl (mb rfl (bs hm (fun a hm => ?_) fun a hm => ?_)))))
  ·exact wak 3 a (mi rfl (mi rfl (Lw.le rfl (Pb a rfl (Nb rfl ((ag) ⟨decide ((x0 : Int) ≤ (x2 : Int)), W0, rfl, Le.refl _ _, rfl, hm⟩))))))
  ·exact psk 3 a rfl (Pb a rfl (Nb rfl ((ag) ⟨false, W0, rfl, Le.refl _ _, rfl, hm⟩)))
theorem p86 {x0 x1 x2 r} (hm : Vm.zfj x0 x1 x2 = some r) : Q1 86 [vI x0, vI x1, vI x2] W [] fun W' v => v = vB r :=
 (c86 (W0 := W.view [] [])  hm).ad (fk 0) fun _ _ e => e
theorem c140 {x0 r} (hm : Vm.zeH x0 = some r) : Q0 140 [.int .u8 (UInt8.toNat x0 : Int)] W0 fun Wf v => v = vB r := by
 unfold Vm.zeH at hm
 refine zau.of Tryz.func140 rfl rfl rfl rfl (sr (Nb rfl ?_))
 obtain ⟨i, k, hm⟩ := zbk hm
 refine Cw.join 3 16 [2] (fun l w => ∃ f h, CW.w h = w ∧ Le [] W0 h ∧ l = [vB f] ∧ i f = some r) ?_ ?_
 ·rintro _ _ σ ⟨f, h, rfl, x, rfl, hm⟩
  rw [k] at hm
  have y := x.o
  exact .ret (rt hm y)
 ·refine rg (mv (.int .u8 (UInt8.toNat x0 : Int)) rfl (Lw.ge rfl (mb rfl (bs hm (fun b hm => ?_) fun b hm => ?_))))
  ·refine wak 2 b (mv (.int .u8 (UInt8.toNat x0 : Int)) rfl (Lw.le rfl (Pb b rfl (mb rfl (bs hm (fun a hm => ?_) fun a hm => ?_)))))
   ·exact psk 3 a rfl (puk 2 rfl (psk 1 a rfl (Pb a rfl (Nb rfl ((ag) ⟨true, W0, rfl, Le.refl _ _, rfl, hm⟩)))))
   ·refine wak 3 a (mv (.int .u8 (UInt8.toNat x0 : Int)) rfl (Lw.ge rfl (mb rfl (bs hm (fun d hm => ?_) fun d hm => ?_))))
    ·exact wak 2 d (mv (.int .u8 (UInt8.toNat x0 : Int)) rfl (Lw.le rfl (wak 1 a (Pb d rfl (Pb a rfl (Nb rfl ((ag) ⟨decide (((UInt8.toNat x0 : Int) : Int) ≤ (57 : Int)), W0, rfl, Le.refl _ _, rfl, hm⟩)))))))
    ·exact psk 2 d rfl (wak 1 a (Pb d rfl (Pb a rfl (Nb rfl ((ag) ⟨false, W0, rfl, Le.refl _ _, rfl, hm⟩)))))
  ·refine psk 2 b rfl (Pb b rfl (mb rfl (wak 3 rfl (mv (.int .u8 (UInt8.toNat x0 : Int)) rfl (Lw.ge rfl (mb rfl (bs hm (fun e hm => ?_) fun e hm => ?_)))))))
   ·exact wak 2 e (mv (.int .u8 (UInt8.toNat x0 : Int)) rfl (Lw.le rfl (wak 1 rfl (Pb e rfl (Pb rfl rfl (Nb rfl ((ag) ⟨decide (((UInt8.toNat x0 : Int) : Int) ≤ (57 : Int)), W0, rfl, Le.refl _ _, rfl, hm⟩)))))))
   ·exact psk 2 e rfl (wak 1 rfl (Pb e rfl (Pb rfl rfl (Nb rfl ((ag) ⟨false, W0, rfl, Le.refl _ _, rfl, hm⟩)))))
theorem p140 {x0 r} (hm : Vm.zeH x0 = some r) : Q1 140 [.int .u8 (UInt8.toNat x0 : Int)] W [] fun W' v => v = vB r :=
 (c140 (W0 := W.view [] [])  hm).ad (fk 0) fun _ _ e => e
theorem c84 {x0 r} (hm : Vm.zc4 x0 = some r) : Q0 84 [vS x0] W0 fun Wf v => v = vB r := by
 unfold Vm.zc4 at hm
 refine zau.of Tryz.func84 rfl rfl rfl rfl (sr (Nb rfl (ssr (ms rfl (Lw.r rfl (R.lenS rfl) (ca hm (fun _ => p86) fun D e hm x => ?_))))))
 have f := x.o
 refine Lw.r rfl (R.not rfl) (nl (cn hm (fun hm => ?_) fun hm => ?_))
 ·exact sr (Nb rfl (.ret (rt hm f)))
 ·refine sk (ssr (Ni rfl (Cw.block ?_)))
  obtain ⟨y, z, hm⟩ := zbk hm
  refine Cw.loop 8 18 [2, 3] (fun m l w => ∃ a b d, CW.w d = w ∧ Le [] e d ∧ l = [vB a, vI b] ∧ Vm.zcw x0 y m a b = some r) _ ⟨false, 0, e, rfl, Le.refl _ _, rfl, hm⟩ ?_
  rintro (_ | E) _ _ σ ⟨a, b, d, rfl, h, rfl, hm⟩
  ·cases hm
  unfold Vm.zcw at hm
  have i := f.n h
  refine ssr (mi rfl (ms rfl (Lw.r rfl (R.lenS rfl) (Lw.lt rfl (nl (cn hm (fun hm => ?_) fun hm => ?_))))))
  ·refine sk (Cw.seq (Cw.block (sr (ms rfl (mi rfl ?_)))))
   obtain ⟨F, A, hm⟩ := ob hm
   refine Lw.r rfl (R.chm A rfl rfl) (ca hm (fun _ => p140) fun G B hm k => ?_)
   have C := i.n k
   refine Lw.r rfl (R.not rfl) (nl (cn hm (fun hm => ?_) fun hm => ?_))
   ·exact sr (Nb rfl (.ret (rt hm C)))
   ·exact sk (rg (mi rfl (Lw.add rfl (Ni rfl ((agm) ⟨a, w64 (b + 1), B, rfl, (h.j k).w, rfl, hm⟩)))))
  ·refine Cw.exit ?_
   rw [z] at hm
   exact sr (Nb rfl (.ret (rt hm i)))
theorem p84 {x0 r} (hm : Vm.zc4 x0 = some r) : Q1 84 [vS x0] W [] fun W' v => v = vB r :=
 (c84 (W0 := W.view [] [])  hm).ad (fk 0) fun _ _ e => e
theorem c177 {x0 r} (hm : Vm.zgf x0 = some r) : Q0 177 [vS x0] W0 fun Wf v => v = vB r := by
 unfold Vm.zgf at hm
 refine zau.of Tryz.func177 rfl rfl rfl rfl (sr (Nb rfl (ssr (ms rfl (Lw.r rfl (R.lenS rfl) (Lw.gt rfl (nl (cn hm (fun hm => ?_) fun hm => ?_))))))))
 ·exact sr (Nb rfl (.ret (rt hm (Le.refl _ _))))
 ·refine sk (ssr (Ni rfl (Cw.block ?_)))
  obtain ⟨x, y, hm⟩ := zbk hm
  refine Cw.loop 7 22 [2, 3] (fun m l w => ∃ d e a, CW.w a = w ∧ Le [] W0 a ∧ l = [vB d, vI e] ∧ Vm.zcx x0 x m d e = some r) _ ⟨false, 0, W0, rfl, Le.refl _ _, rfl, hm⟩ ?_
  rintro (_ | F) _ _ σ ⟨d, e, a, rfl, i, rfl, hm⟩
  ·cases hm
  unfold Vm.zcx at hm
  have k := i.o
  refine ssr (mi rfl (ms rfl (Lw.r rfl (R.lenS rfl) (Lw.lt rfl (nl (cn hm (fun hm => ?_) fun hm => ?_))))))
  ·refine sk (Cw.seq (Cw.block ?_))
   obtain ⟨z, A, hm⟩ := zbk hm
   refine Cw.join 13 22 [22] (fun l w => ∃ h f, CW.w f = w ∧ Le [] a f ∧ l = [vB h] ∧ z h = some r) ?_ ?_
   ·rintro _ _ σ ⟨h, f, rfl, l10, rfl, hm⟩
    rw [A] at hm
    have B := k.n l10
    refine cn hm (fun hm => ?_) fun hm => ?_
    ·exact sr (Nb rfl (.ret (rt hm B)))
    ·exact sk (rg (mi rfl (Lw.add rfl (Ni rfl ((agm) ⟨d, w64 (e + 1), f, rfl, (i.j l10).w, rfl, hm⟩)))))
   ·refine rg (ms rfl (mi rfl ?_))
    obtain ⟨G, C, hm⟩ := ob hm
    refine Lw.r rfl (R.chm C rfl rfl) (Lw.lt rfl (mb rfl (bs hm (fun b hm => ?_) fun b hm => ?_)))
    ·exact psk 4 b rfl (Pb b rfl (nl ((ag) ⟨true, a, rfl, Le.refl _ _, rfl, hm⟩)))
    ·refine wak 4 b (ms rfl (mi rfl ?_))
     obtain ⟨D, E, hm⟩ := ob hm
     exact Lw.r rfl (R.chm E rfl rfl) (Lw.gt rfl (Pb b rfl (nl ((ag) ⟨decide ((126 : Int) < ((UInt8.toNat D : Int) : Int)), a, rfl, Le.refl _ _, rfl, hm⟩))))
  ·refine Cw.exit ?_
   rw [y] at hm
   exact sr (Nb rfl (.ret (rt hm k)))
theorem p177 {x0 r} (hm : Vm.zgf x0 = some r) : Q1 177 [vS x0] W [] fun W' v => v = vB r :=
 (c177 (W0 := W.view [] [])  hm).ad (fk 0) fun _ _ e => e
theorem c141 {x0 a r} (b : Rd W0 [0] [a] x0) (hm : Vm.zcn x0 = some r) : Q0 141 [a] W0 fun Wf v => v = vB r := by
 unfold Vm.zcn at hm
 refine zau.of Tryz.func141 rfl rfl rfl rfl (sr (Nb rfl (ssr (mv a rfl (Lw.ln x0 b rfl (Lw.gt rfl (nl (cn hm (fun hm => ?_) fun hm => ?_))))))))
 ·exact sr (Nb rfl (.ret (rt hm (Le.refl _ _))))
 ·refine sk (ssr (mv a rfl (Lw.ln x0 b rfl (mi rfl (nl (Cw.block ?_))))))
  obtain ⟨z, A, hm⟩ := zbk hm
  refine Cw.loop 10 17 [2, 4, 10] (fun m l w => ∃ d e i h, CW.w h = w ∧ Le [] W0 h ∧ l = [vB d, i, vI e] ∧ Vm.zcy x0 z m d e = some r) _ ⟨false, 0, undef, W0, rfl, Le.refl _ _, rfl, hm⟩ ?_
  rintro (_ | E) _ _ σ ⟨d, e, i, h, rfl, k, rfl, hm⟩
  ·cases hm
  unfold Vm.zcy at hm
  have f := k.o
  refine sr (Lw.lt rfl (nl (Cw.seq (cn hm (fun hm => ?_) fun hm => ?_))))
  ·refine sk (Cw.seq (Cw.block (sr ?_)))
   obtain ⟨B, x, hm⟩ := ob hm
   refine Lw.r rfl (R.ix (α := Str) (b.ul f) x rfl rfl rfl) (Lw.r rfl (R.ld rfl rfl ((b.ul f).at_ x).str) (Ns rfl (sr (ms rfl (ca hm (fun _ => p177) fun F C hm y => ?_)))))
   have D := f.n y
   refine Lw.r rfl (R.not rfl) (nl (cn hm (fun hm => ?_) fun hm => ?_))
   ·exact sr (Nb rfl (.ret (rt hm D)))
   ·exact sk (rg (Lw.add rfl (mi rfl (nl ((agm) ⟨d, w64 (e + 1), vS B, C, rfl, (k.j y).w, rfl, hm⟩)))))
  ·refine Cw.exit ?_
   rw [A] at hm
   exact sr (Nb rfl (.ret (rt hm f)))
theorem p141 {x0 a r} (b : Rd W K [a] x0) (hm : Vm.zcn x0 = some r) : Q1 141 [a] W [] fun W' v => v = vB r :=
 (c141 (b.view _) hm).ad (fk 0) fun _ _ e => e
theorem c142 {x0 r} (C : Gl 0 W0 [0]) (hm : Vm.zeu x0 = some r) : Q0 142 [vS x0] W0 fun Wf v => v = vB r := by
 unfold Vm.zeu at hm
 refine zau.of Tryz.func142 rfl rfl rfl rfl (sr (Nb rfl (sr (ms rfl (cr hm (fun _ => p178 (k0 := 2) C) ?_)))))
 rintro f h k hm D ⟨_, rfl, a⟩
 have x := D.o
 refine Nv h rfl (ssr (mv h rfl (Lw.ln f a.rd rfl (Lw.gt rfl (nl (cn hm (fun hm => ?_) fun hm => ?_))))))
 ·exact sr (Nb rfl (.ret (rt hm x)))
 ·refine sk (ssr (mv h rfl (Lw.ln f a.rd rfl (mi rfl (nl (Cw.block ?_))))))
  obtain ⟨E, F, hm⟩ := zbk hm
  refine Cw.loop 13 20 [2, 5, 13] (fun m l w => ∃ b d y i, CW.w i = w ∧ Le [] k i ∧ l = [vB b, y, vI d] ∧ Vm.zcz f E m b d = some r) _ ⟨false, 0, undef, k, rfl, Le.refl _ _, rfl, hm⟩ ?_
  rintro (_ | J) _ _ σ ⟨b, d, y, i, rfl, e, rfl, hm⟩
  ·cases hm
  unfold Vm.zcz at hm
  have z := x.n e
  refine sr (Lw.lt rfl (nl (Cw.seq (cn hm (fun hm => ?_) fun hm => ?_))))
  ·refine sk (Cw.seq (Cw.block (sr ?_)))
   obtain ⟨G, A, hm⟩ := ob hm
   refine Lw.r rfl (R.ix (α := Str) (a.up e).rd A rfl rfl rfl) (Lw.r rfl (R.ld rfl rfl ((a.up e).rd.at_ A).str) (Ns rfl (sr (ms rfl (ca hm (fun _ => p84) fun K H hm B => ?_)))))
   have I := z.n B
   refine Lw.r rfl (R.not rfl) (nl (cn hm (fun hm => ?_) fun hm => ?_))
   ·exact sr (Nb rfl (.ret (rt hm I)))
   ·exact sk (rg (Lw.add rfl (mi rfl (nl ((agm) ⟨b, w64 (d + 1), vS G, H, rfl, (e.j B).w, rfl, hm⟩)))))
  ·refine Cw.exit ?_
   rw [F] at hm
   exact sr (Nb rfl (.ret (rt hm z)))
theorem p142 {x0 r} (a : Gl 0 W K) (hm : Vm.zeu x0 = some r) : Q1 142 [vS x0] W [] fun W' v => v = vB r :=
 (c142 (a.view _) hm).ad (fk 0) fun _ _ e => e
theorem c143 {x0 x1 r} (h : Gl 0 W0 [0]) (hm : Vm.zbY x0 x1 = some r) : Q0 143 [vS x0, vS x1] W0 fun Wf v => v = vB r := by
 unfold Vm.zbY at hm
 refine zau.of Tryz.func143 rfl rfl rfl rfl (sr (Nb rfl ?_))
 obtain ⟨k, x, hm⟩ := zbk hm
 refine Cw.join 5 16 [4] (fun l w => ∃ e f, CW.w f = w ∧ Le [] W0 f ∧ l = [vB e] ∧ k e = some r) ?_ ?_
 ·rintro _ _ σ ⟨e, f, rfl, y, rfl, hm⟩
  rw [x] at hm
  have z := y.o
  exact .ret (rt hm z)
 ·refine rg (ms rfl (ca hm (fun _ => p142 h) fun H A hm d => ?_))
  have B := d.o
  refine mb rfl (bs hm (fun a hm => ?_) fun a hm => ?_)
  ·refine wak 2 a (ms rfl (ca hm (fun _ => p142 (h.ul B)) fun I C hm i => Pb a rfl (mb rfl (bs hm (fun b hm => ?_) fun b hm => ?_))))
   ·refine wak 4 b (ms rfl (ms rfl ?_))
    obtain ⟨J, D, hm⟩ := ob hm
    exact Lw.r rfl (R.sad D rfl rfl) (ca hm (fun _ => p179) fun E F hm G => Pb b rfl (Nb rfl ((ag) ⟨E, F, rfl, ((d.j i).j G).w, rfl, hm⟩)))
   ·exact psk 4 b rfl (Pb b rfl (Nb rfl ((ag) ⟨false, C, rfl, (d.j i).w, rfl, hm⟩)))
  ·exact psk 2 a rfl (Pb a rfl (mb rfl (psk 4 rfl rfl (Pb rfl rfl (Nb rfl ((ag) ⟨false, A, rfl, d, rfl, hm⟩))))))
theorem p143 {x0 x1 r} (a : Gl 0 W K) (hm : Vm.zbY x0 x1 = some r) : Q1 143 [vS x0, vS x1] W [] fun W' v => v = vB r :=
 (c143 (a.view _) hm).ad (fk 0) fun _ _ e => e
theorem c85 {x0 h r} (f : Rd W0 [0] [h] x0) (Z : Gl 0 W0 [0]) (hm : Vm.zc5 x0 = some r) : Q0 85 [h] W0 fun Wf v => v = vB r := by
 unfold Vm.zc5 at hm
 refine zau.of Tryz.func85 rfl rfl rfl rfl (sr (Nb rfl (ssr (mv h rfl (Lw.ln x0 f rfl (Lw.gt rfl (nl (cn hm (fun hm => ?_) fun hm => ?_))))))))
 ·exact sr (Nb rfl (.ret (rt hm (Le.refl _ _))))
 ·refine sk (ssr (mv h rfl (Lw.ln x0 f rfl (mi rfl (nl (Cw.block ?_))))))
  obtain ⟨K8, ar, hm⟩ := zbk hm
  refine Cw.loop 12 56 [2, 3, 4, 6, 12] (fun m l w => ∃ B d j3 j4 J K, CW.w K = w ∧ Le [2, 3] W0 K ∧ l = [vB B, j3, j4, J, vI d] ∧ Vm.zcA x0 K8 m B d = some r) _ ⟨false, 0, undef, undef, undef, W0, rfl, Le.refl _ _, rfl, hm⟩ ?_
  rintro (_ | m9) _ _ σ ⟨B, d, j3, j4, J, K, rfl, l7, rfl, hm⟩
  ·cases hm
  unfold Vm.zcA at hm
  have i := l7.s
  refine sr (Lw.lt rfl (nl (Cw.seq (cn hm (fun hm => ?_) fun hm => ?_))))
  ·refine sk (Cw.seq (Cw.block (sr (mi rfl ?_))))
   obtain ⟨k, af, hm⟩ := ob hm
   refine Lw.r rfl (R.ix (α := File) (f.ul i) af rfl rfl rfl) ?_
   obtain ⟨x15, c16, _, r17⟩ := ((f.ul i).at_ af).cells
   obtain ⟨bg, rfl, r19⟩ := File.split r17
   refine Lw.r rfl (R.lda c16 rfl rfl) (al 2 [vS ([] : Str), .slice none 0 0] fun au bh ah av => ?_)
   have C := ah.o
   refine Gi rfl (sta av (zaa rfl (zaa r19.oc zaF)) fun aw ai aj => ?_)
   have D := ai.s
   refine nl (Cw.seq ?_)
   obtain ⟨ax, ay, hm⟩ := zbk hm
   refine Cw.join 17 41 [41] (fun l w => ∃ L z, CW.w z = w ∧ Le [] aw z ∧ l = [vB L] ∧ ax L = some r) ?_ ?_
   ·rintro _ _ σ ⟨L, z, rfl, M, rfl, hm⟩
    rw [ay] at hm
    have E := ((i.trans C).trans D).n M
    refine cn hm (fun hm => ?_) fun hm => ?_
    ·exact sr (Nb rfl (.ret (rt hm E)))
    ·refine sk (sr (mv h rfl (mi rfl ?_)))
     obtain ⟨ak, am, hm⟩ := ob hm
     have r34 := (f.ul E).cutV am
     refine Lw.r rfl (R.sl (f.ul E) am rfl (.inl ⟨rfl, rfl⟩) (.inr rfl)) (Lw.ln ak r34 rfl (mi rfl (nl (Cw.block ?_))))
     obtain ⟨az, a0, hm⟩ := zbk hm
     refine Cw.loop 46 55 [2, 6, 46] (fun m l w => ∃ A F N G, CW.w G = w ∧ Le [3] z G ∧ l = [vB A, N, vI F] ∧ Vm.zbz k ak az m A F = some r) _ ⟨B, 0, J, z, rfl, Le.refl _ _, rfl, hm⟩ ?_
     rintro (_ | bi) _ _ σ ⟨A, F, N, G, rfl, H, rfl, hm⟩
     ·cases hm
     unfold Vm.zbz at hm
     have O := H.s
     refine sr (Lw.lt rfl (nl (Cw.seq (cn hm (fun hm => ?_) fun hm => ?_))))
     ·refine sk (Cw.seq (Cw.block (sr ?_)))
      obtain ⟨bj, an, hm⟩ := ob hm
      refine Lw.r rfl (R.ix (α := File) (r34.ul O) an rfl rfl rfl) ?_
      obtain ⟨x47, c48, _, r49⟩ := ((r34.ul O).at_ an).cells
      obtain ⟨bk, rfl, r51⟩ := File.split r49
      refine Lw.r rfl (R.lda c48 rfl rfl) (al 3 [vS ([] : Str), .slice none 0 0] fun a1 bl P a2 => ?_)
      have a3 := (E.trans O).n P
      refine sta a2 (zaa rfl (zaa r51.oc zaF)) fun bm Q a4 => ?_
      have ao := a3.t Q
      refine nl (sr (fl a4 rfl (fl ((((aj.up M).up H).up P).up Q) rfl (ca hm (fun _ => p143 (Z.ul ao)) fun bn a5 hm ap => ?_))))
      have a6 := ao.n ap
      refine nl (cn hm (fun hm => ?_) fun hm => ?_)
      ·exact sr (Nb rfl (.ret (rt hm a6)))
      ·exact sk (rg (Lw.add rfl (mi rfl (nl ((agm) ⟨A, w64 (F + 1), ptr (bx a1), a5, rfl, (((H.j P).j Q).j ap).w, rfl, hm⟩)))))
     ·refine Cw.exit ?_
      rw [a0] at hm
      exact rg (Lw.add rfl (mi rfl (nl ((agm) ⟨A, w64 (d + 1), vI d, ptr (bx au), N, G, rfl, ((((l7.j ah).j ai).j M).j H).w, rfl, hm⟩))))
   ·refine Cw.draw [] [(0, 0), (1, 1), (2, 2), (3, 0), (4, 0), (5, 0), (6, 1), (7, 2), (8, 0), (9, 0), (10, 0), (11, 0), (12, 0), (13, 0), (14, 0), (15, 0), (16, 0), (17, 0), (18, 0), (19, 1), (20, 0), (21, 1), (22, 0), (23, 0), (24, 0)] mixed (by kernel_rfl) fun bp x => ?_
    have S := x.o
    have U := aj.up x
    refine Dfl U rfl rfl rfl ?_
    obtain ⟨bq, a7, hm⟩ := ob hm
    refine Mw.t rfl rfl (T.call rfl (p141  (r19.ul ((C.trans D).trans S)) a7)) ?_
    rintro _ _ ⟨a8, rfl, y, rfl⟩
    have a9 := (((i.trans C).trans D).trans S).n y
    refine m0 y fun ba => Mw.p rfl rfl (fun _ => R.not rfl) (Db rfl (bs hm (fun e hm => ?_) fun e hm => ?_))
    ·exact dps 4 e rfl (Mw.p rfl rfl (fun _ => R.pk e rfl (v := vB true) rfl) (Db rfl (dps 3 rfl rfl (dpu 9 rfl (dps 1 rfl rfl (Mw.p rfl rfl (fun _ => R.pk rfl rfl (v := vB true) rfl) (Mw.nil ((ag) ⟨true, a8, rfl, (x.j y).w, rfl, hm⟩))))))))
    ·refine Wp e rfl (fun _ => R.fa rfl) (Wq e rfl (fun _ c => R.ld (v := vS k.Path) rfl rfl (U.clc rfl rfl c)) ?_)
     obtain ⟨bb, bc, hm⟩ := ob hm
     refine Wt e rfl (T.call rfl (p142  (Z.ul a9) bc)) ?_
     rintro _ _ ⟨V, rfl, I, rfl⟩
     refine mc ba I fun br => Wp e rfl (fun _ => R.not rfl) (Mw.p rfl rfl (fun _ => R.pk e rfl (v := vB (!bb)) rfl) (Db rfl (bs hm (fun b hm => ?_) fun b hm => ?_)))
     ·exact dps 3 b rfl (dpu 9 rfl (dps 1 b rfl (Mw.p rfl rfl (fun _ => R.pk b rfl (v := vB true) rfl) (Mw.nil ((ag) ⟨true, V, rfl, ((x.j y).j I).w, rfl, hm⟩)))))
     ·refine Wp b rfl (fun _ => R.mv (v := vI d) rfl) (Wp b rfl (fun _ => R.gt rfl rfl) (Wp b rfl (fun _ => R.mv (v := vB (decide ((0 : Int) < (d : Int)))) rfl) (bs hm (fun a hm => ?_) fun a hm => ?_)))
      ·refine Wp a rfl (fun _ => R.mv (v := h) rfl) (Wp a rfl (fun _ => R.mv (v := vI d) rfl) (Wp a rfl (fun _ => R.sub rfl rfl) ?_))
       obtain ⟨W, X, hm⟩ := ob hm
       have Y := f.ul (((i.trans C).trans D).trans S)
       exact Wp a rfl (fun _ => R.ix (α := File) Y X rfl rfl rfl) (Wp a rfl (fun _ => R.fa rfl) (Wq a rfl (fun _ c => R.ld rfl rfl (zaz (File.at0 (Y.at_ X)).1 rfl (File.at0 (Y.at_ X)).str c)) (Wp a rfl (fun _ => R.fa rfl) (Wq a rfl (fun _ c => R.ld (v := vS k.Path) rfl rfl (U.clc rfl rfl c)) (Wp a rfl (fun _ => R.sge rfl rfl) (Wp b rfl (fun _ => R.pk a rfl (v := vB (!Op.bytesLess W.Path k.Path)) rfl) (Mw.p rfl rfl (fun _ => R.pk b rfl (v := vB (!Op.bytesLess W.Path k.Path)) rfl) (Mw.nil ((ag) ⟨(!Op.bytesLess W.Path k.Path), V, rfl, ((x.j y).j I).w, rfl, hm⟩)))))))))
      ·exact dps 9 a rfl (Wp b rfl (fun _ => R.pk a rfl (v := vB false) rfl) (Mw.p rfl rfl (fun _ => R.pk b rfl (v := vB false) rfl) (Mw.nil ((ag) ⟨false, V, rfl, ((x.j y).j I).w, rfl, hm⟩))))
  ·refine Cw.exit ?_
   rw [ar] at hm
   exact sr (Nb rfl (.ret (rt hm i)))
theorem p85 {x0 a r} (b : Rd W K [a] x0) (d : Gl 0 W K) (hm : Vm.zc5 x0 = some r) : Q1 85 [a] W [] fun W' v => v = vB r :=
 (c85 (b.view _) (d.view _) hm).ad (fk 0) fun _ _ e => e
theorem c66 {x0 a b x1 r} (f : Rd W0 [0] [a, b] x0) (hm : Vm.zbZ x0 x1 = some r) : Q0 66 [.agg [a, b].toArray, vI x1] W0 fun Wf v => v = vB r := by
 unfold Vm.zbZ at hm
 obtain ⟨z, A, d, h, B⟩ := Repo.split f
 simp only [List.cons.injEq, and_true, true_and] at d
 obtain ⟨rfl, rfl⟩ := d
 refine zau.of Tryz.func66 rfl rfl rfl rfl (sr (bo 2 rfl fun C D i k => ?_))
 have e := i.o
 refine Nb rfl (sr (mi rfl (fl k rfl (Lw.ln x0.Commits (h.ul e) rfl (Lw.sub rfl (ca hm (fun _ => p86) fun E F hm x => ?_))))))
 have y := e.n x
 exact Nb rfl (.ret (rt hm y))
theorem p66 {x0 a b x1 r} (d : Rd W K [a, b] x0) (hm : Vm.zbZ x0 x1 = some r) : Q1 66 [.agg [a, b].toArray, vI x1] W [] fun W' v => v = vB r :=
 (c66 (d.view _) hm).ad (fk 0) fun _ _ e => e
theorem c87 {x0 E F x1 k r} (h0 : Rd W0 [0] [E, F] x0) (f : Rd W0 [0] [k] x1) (hm : Vm.zfn x0 x1 = some r) : Q0 87 [.agg [E, F].toArray, k] W0 fun Wf v => v = vB r := by
 unfold Vm.zfn at hm
 obtain ⟨a0, a1, Q, ac, ae⟩ := Repo.split h0
 simp only [List.cons.injEq, and_true, true_and] at Q
 obtain ⟨rfl, rfl⟩ := Q
 refine zau.of Tryz.func87 rfl rfl rfl rfl (sr (bo 2 rfl fun g1 S l1 b1 => ?_))
 have y := l1.o
 refine Nb rfl (ssr (mv k rfl (Lw.ln x1 (f.ul y) rfl (Lw.gt rfl (nl (cn hm (fun hm => ?_) fun hm => ?_))))))
 ·exact sr (Nb rfl (.ret (rt hm y)))
 ·refine sk (ssr (mv k rfl (Lw.ln x1 (f.ul y) rfl (mi rfl (nl (Cw.block ?_))))))
  obtain ⟨ai, aj, hm⟩ := zbk hm
  refine Cw.loop 12 43 [4, 5, 6, 12] (fun m l w => ∃ z e U V G, CW.w G = w ∧ Le [3] S G ∧ l = [vB z, U, V, vI e] ∧ Vm.zb3 x0 x1 ai m z e = some r) _ ⟨false, 0, undef, undef, S, rfl, Le.refl _ _, rfl, hm⟩ ?_
  rintro (_ | a4) _ _ σ ⟨z, e, U, V, G, rfl, H, rfl, hm⟩
  ·cases hm
  unfold Vm.zb3 at hm
  have A := y.t H
  refine sr (Lw.lt rfl (nl (Cw.seq (cn hm (fun hm => ?_) fun hm => ?_))))
  ·refine sk (Cw.seq (Cw.block (sr (mi rfl ?_))))
   obtain ⟨x, W, hm⟩ := ob hm
   refine Lw.r rfl (R.ix (α := Head) (f.ul A) W rfl rfl rfl) ?_
   obtain ⟨x18, c19, _, r20⟩ := ((f.ul A).at_ W).cells
   obtain rfl := Head.split r20
   refine Lw.r rfl (R.lda c19 rfl rfl) (al 3 [vS ([] : Str), vI 0] fun ak a5 I am => ?_)
   have an := A.n I
   refine Gi rfl (sta am (zaa rfl (zaa rfl zaF)) fun ao J ap => ?_)
   have X := an.t J
   refine nl ?_
   obtain ⟨aq, ar, hm⟩ := zbk hm
   refine Cw.join 17 42 [42] (fun l w => ∃ L B, CW.w B = w ∧ Le [] ao B ∧ l = [vB L] ∧ aq L = some r) ?_ ?_
   ·rintro _ _ σ ⟨L, B, rfl, Y, rfl, hm⟩
    rw [ar] at hm
    have au := X.n Y
    refine cn hm (fun hm => ?_) fun hm => ?_
    ·exact sr (Nb rfl (.ret (rt hm au)))
    ·exact sk (rg (Lw.add rfl (mi rfl (nl ((agm) ⟨z, w64 (e + 1), vI e, ptr (bx ak), B, rfl, (((H.j I).j J).j Y).w, rfl, hm⟩)))))
   ·refine Cw.draw [] [(0, 0), (1, 1), (2, 2), (3, 0), (4, 0), (5, 1), (6, 0), (7, 1), (8, 2), (9, 0), (10, 0), (11, 0), (12, 0), (13, 0), (14, 0), (15, 0), (16, 0), (17, 0), (18, 0), (19, 0), (20, 1), (21, 0), (22, 1), (23, 0), (24, 0), (25, 0)] mixed (by kernel_rfl) fun a6 h => ?_
    have C := X.n h
    have M := ap.up h
    refine Dfl M rfl rfl rfl ?_
    obtain ⟨a7, av, hm⟩ := ob hm
    refine Mw.t rfl rfl (T.call rfl (p84   av)) ?_
    rintro _ _ ⟨aw, rfl, i, rfl⟩
    have Z := C.n i
    refine m0 i fun ax => Mw.p rfl rfl (fun _ => R.not rfl) (Db rfl (bs hm (fun d hm => ?_) fun d hm => ?_))
    ·exact dps 5 d rfl (Mw.p rfl rfl (fun _ => R.pk d rfl (v := vB true) rfl) (Db rfl (dps 3 rfl rfl (dpu 9 rfl (dps 1 rfl rfl (Mw.p rfl rfl (fun _ => R.pk rfl rfl (v := vB true) rfl) (Mw.nil ((ag) ⟨true, aw, rfl, (h.j i).w, rfl, hm⟩))))))))
    ·refine Wq d rfl (fun _ c => R.lda (cs := [E, F]) (((((b1.up H).up I).up J).up h).clcs rfl c) rfl rfl) (Wp d rfl (fun _ => R.fa rfl) (Wq d rfl (fun _ c => R.ld (v := vI x.At) rfl rfl (M.clc rfl rfl c)) ?_))
     obtain ⟨ay, az, hm⟩ := ob hm
     refine Wt d rfl (T.call rfl (p66  (Repo.rd (K := [0]) x0.Commits x0.Heads (ac.ul Z) (ae.ul Z)) az)) ?_
     rintro _ _ ⟨N, rfl, D, rfl⟩
     refine mc ax D fun a8 => Wp d rfl (fun _ => R.not rfl) (Mw.p rfl rfl (fun _ => R.pk d rfl (v := vB (!ay)) rfl) (Db rfl (bs hm (fun b hm => ?_) fun b hm => ?_)))
     ·exact dps 3 b rfl (dpu 9 rfl (dps 1 b rfl (Mw.p rfl rfl (fun _ => R.pk b rfl (v := vB true) rfl) (Mw.nil ((ag) ⟨true, N, rfl, ((h.j i).j D).w, rfl, hm⟩)))))
     ·refine Wp b rfl (fun _ => R.mv (v := vI e) rfl) (Wp b rfl (fun _ => R.gt rfl rfl) (Wp b rfl (fun _ => R.mv (v := vB (decide ((0 : Int) < (e : Int)))) rfl) (bs hm (fun a hm => ?_) fun a hm => ?_)))
      ·refine Wp a rfl (fun _ => R.mv (v := k) rfl) (Wp a rfl (fun _ => R.mv (v := vI e) rfl) (Wp a rfl (fun _ => R.sub rfl rfl) ?_))
       obtain ⟨O, P, hm⟩ := ob hm
       exact Wp a rfl (fun _ => R.ix (α := Head) (f.ul C) P rfl rfl rfl) (Wp a rfl (fun _ => R.fa rfl) (Wq a rfl (fun _ c => R.ld rfl rfl (zaz (Head.at0 ((f.ul C).at_ P)).1 rfl (Head.at0 ((f.ul C).at_ P)).str c)) (Wp a rfl (fun _ => R.fa rfl) (Wq a rfl (fun _ c => R.ld (v := vS x.Name) rfl rfl (M.clc rfl rfl c)) (Wp a rfl (fun _ => R.sge rfl rfl) (Wp b rfl (fun _ => R.pk a rfl (v := vB (!Op.bytesLess O.Name x.Name)) rfl) (Mw.p rfl rfl (fun _ => R.pk b rfl (v := vB (!Op.bytesLess O.Name x.Name)) rfl) (Mw.nil ((ag) ⟨(!Op.bytesLess O.Name x.Name), N, rfl, ((h.j i).j D).w, rfl, hm⟩)))))))))
      ·exact dps 9 a rfl (Wp b rfl (fun _ => R.pk a rfl (v := vB false) rfl) (Mw.p rfl rfl (fun _ => R.pk b rfl (v := vB false) rfl) (Mw.nil ((ag) ⟨false, N, rfl, ((h.j i).j D).w, rfl, hm⟩))))
  ·refine Cw.exit ?_
   rw [aj] at hm
   exact sr (Nb rfl (.ret (rt hm A)))
theorem p87 {x0 a b x1 d r} (f : Rd W K [a, b] x0) (h : Rd W K [d] x1) (hm : Vm.zfn x0 x1 = some r) : Q1 87 [.agg [a, b].toArray, d] W [] fun W' v => v = vB r :=
 (c87 (f.view _) (h.view _) hm).ad (fk 0) fun _ _ e => e
theorem c22 {x0 aa ac r} (h0 : Rd W0 [0] [aa, ac] x0) (ae : Gl 0 W0 [0]) (hm : Vm.zeT x0 = some r) : Q0 22 [.agg [aa, ac].toArray] W0 fun Wf v => v = vB r := by
 unfold Vm.zeT at hm
 obtain ⟨b7, b8, af, C, ah⟩ := Repo.split h0
 simp only [List.cons.injEq, and_true, true_and] at af
 obtain ⟨rfl, rfl⟩ := af
 refine zau.of Tryz.func22 rfl rfl rfl rfl (sr (bo 2 rfl fun g1 W1 l1 G => ?_))
 have H := l1.o
 refine Nb rfl (ssr (fl G rfl (Lw.ln x0.Commits (C.ul H) rfl (Lw.gt rfl (nl (cn hm (fun hm => ?_) fun hm => ?_))))))
 ·exact sr (Nb rfl (.ret (rt hm H)))
 ·refine sk (ssr (fl G rfl (Lw.ln x0.Commits (C.ul H) rfl (mi rfl (nl (Cw.block ?_))))))
  obtain ⟨a9, ba, hm⟩ := zbk hm
  refine Cw.loop 14 65 [2, 3, 4, 6, 14] (fun m l w => ∃ I B j6 j7 P Q, CW.w Q = w ∧ Le [3] W1 Q ∧ l = [vB I, j6, j7, P, vI B] ∧ Vm.zcB x0 a9 m I B = some r) _ ⟨false, 0, undef, undef, undef, W1, rfl, Le.refl _ _, rfl, hm⟩ ?_
  rintro (_ | cb) _ _ σ ⟨I, B, j6, j7, P, Q, rfl, l10, rfl, hm⟩
  ·cases hm
  unfold Vm.zcB at hm
  have d := H.t l10
  refine sr (Lw.lt rfl (nl (Cw.seq (cn hm (fun hm => ?_) fun hm => ?_))))
  ·refine sk (Cw.seq (Cw.block (sr (mi rfl ?_))))
   obtain ⟨A, am, hm⟩ := ob hm
   refine Lw.r rfl (R.ix (α := Commit) (C.ul d) am rfl rfl rfl) ?_
   obtain ⟨x19, c20, _, r21⟩ := ((C.ul d).at_ am).cells
   obtain ⟨S, an, rfl, r23, r25⟩ := Commit.split r21
   refine Lw.r rfl (R.lda c20 rfl rfl) (al 3 [.slice none 0 0, vS ([] : Str), .slice none 0 0] fun bb cc ao bc => ?_)
   have e := ao.o
   refine Gi rfl (sta bc (zaa r23.oc (zaa rfl (zaa r25.oc zaF))) fun be ap aq => ?_)
   have f := ap.s
   refine nl (Cw.seq ?_)
   obtain ⟨bg, bh, hm⟩ := zbk hm
   refine Cw.join 19 51 [51] (fun l w => ∃ U D, CW.w D = w ∧ Le [] be D ∧ l = [vB U] ∧ bg U = some r) ?_ ?_
   ·rintro _ _ σ ⟨U, D, rfl, V, rfl, hm⟩
    rw [bh] at hm
    have J := V.o
    refine cn hm (fun hm => ?_) fun hm => ?_
    ·exact sr (Nb rfl (.ret (rt hm (((d.trans e).trans f).trans J))))
    ·refine sk (sr (fl (aq.up V) rfl (Lw.ln A.Parents (r23.ul ((e.trans f).trans J)) rfl (mi rfl (nl (Cw.block ?_))))))
     obtain ⟨bi, bj, hm⟩ := zbk hm
     refine Cw.loop 55 64 [2, 6, 55] (fun m l w => ∃ E L W M, CW.w M = w ∧ Le [] D M ∧ l = [vB E, W, vI L] ∧ Vm.zbA B A bi m E L = some r) _ ⟨I, 0, P, D, rfl, Le.refl _ _, rfl, hm⟩ ?_
     rintro (_ | cd) _ _ σ ⟨E, L, W, M, rfl, X, rfl, hm⟩
     ·cases hm
     unfold Vm.zbA at hm
     have ar := X.o
     refine sr (Lw.lt rfl (nl (Cw.seq (cn hm (fun hm => ?_) fun hm => ?_))))
     ·refine sk (Cw.seq (Cw.block (sr ?_)))
      obtain ⟨bk, au, hm⟩ := ob hm
      have av := r23.ul (((e.trans f).trans J).trans ar)
      refine Lw.r rfl (R.ix (α := Int) av au rfl rfl rfl) (Lw.r rfl (R.ld rfl rfl (av.at_ au).int) (Ni rfl (sr (mi rfl (mi rfl (Lw.sub rfl (ca hm (fun _ => p86) fun ce bl hm aw => ?_)))))))
      have bm := ((((d.trans e).trans f).trans J).trans ar).n aw
      refine Lw.r rfl (R.not rfl) (nl (cn hm (fun hm => ?_) fun hm => ?_))
      ·exact sr (Nb rfl (.ret (rt hm bm)))
      ·exact sk (rg (Lw.add rfl (mi rfl (nl ((agm) ⟨E, w64 (L + 1), vI bk, bl, rfl, (X.j aw).w, rfl, hm⟩)))))
     ·refine Cw.exit ?_
      rw [bj] at hm
      exact rg (Lw.add rfl (mi rfl (nl ((agm) ⟨E, w64 (B + 1), vI B, ptr (bx bb), W, M, rfl, ((((l10.j ao).j ap).j V).j X).w, rfl, hm⟩))))
   ·refine Cw.draw [] [(0, 0), (1, 1), (2, 0), (3, 0), (4, 0), (5, 0), (6, 1), (7, 0), (8, 0), (9, 0), (10, 0), (11, 1), (12, 0), (13, 1), (14, 0), (15, 1), (16, 0), (17, 1), (18, 0), (19, 0), (20, 0), (21, 0), (22, 0), (23, 1), (24, 2), (25, 0), (26, 0), (27, 0), (28, 0), (29, 1), (30, 2), (31, 0), (32, 0)] mixed (by kernel_rfl) fun ax h => ?_
    have F := h.o
    have i := aq.up h
    have k := r23.ul ((e.trans f).trans F)
    refine Dfl i rfl rfl rfl (Mw.p rfl rfl (fun _ => zt4 (xs := A.Parents) k rfl) (Mw.p rfl rfl (fun _ => R.gt rfl rfl) (Db rfl (bs hm (fun a hm => ?_) fun a hm => ?_))))
    ·exact dps 5 a rfl (dpu 9 rfl (dps 1 a rfl (Mw.p rfl rfl (fun _ => R.pk a rfl (v := vB true) rfl) (Db rfl (dps 4 rfl rfl (Mw.p rfl rfl (fun _ => R.pk rfl rfl (v := vB true) rfl) (Db rfl (dps 4 rfl rfl (Mw.p rfl rfl (fun _ => R.pk rfl rfl (v := vB true) rfl) (Mw.nil ((ag) ⟨true, ax, rfl, h, rfl, hm⟩)))))))))))
    ·refine Wp a rfl (fun _ => R.fa rfl) (Wq a rfl (fun _ c => R.ld (v := S) rfl rfl (i.clc rfl rfl c)) (Wp a rfl (fun _ => zt4 (xs := A.Parents) k rfl) (Wp a rfl (fun _ => R.eq rfl rfl) (Wp a rfl (fun _ => R.mv (v := vB (((A.Parents.length : Int) : Int) == (2 : Int))) rfl) (bs hm (fun b hm => ?_) fun b hm => ?_)))))
     ·refine Wp b rfl (fun _ => R.fa rfl) (Wq b rfl (fun _ c => R.ld (v := S) rfl rfl (i.clc rfl rfl c)) ?_)
      obtain ⟨ay, Y, hm⟩ := ob hm
      refine Wp b rfl (fun _ => R.ix (α := Int) k Y rfl rfl rfl) (Wq b rfl (fun _ c => R.ld rfl rfl (zaz (k.at_ Y).1 rfl (k.at_ Y).int c)) (Wp b rfl (fun _ => R.fa rfl) (Wq b rfl (fun _ c => R.ld (v := S) rfl rfl (i.clc rfl rfl c)) ?_)))
      obtain ⟨az, Z, hm⟩ := ob hm
      refine Wp b rfl (fun _ => R.ix (α := Int) k Z rfl rfl rfl) (Wq b rfl (fun _ c => R.ld rfl rfl (zaz (k.at_ Z).1 rfl (k.at_ Z).int c)) (Wp b rfl (fun _ => R.eq rfl rfl) (Wp a rfl (fun _ => R.pk b rfl (v := vB ((ay : Int) == (az : Int))) rfl) (Mw.p rfl rfl (fun _ => R.pk a rfl (v := vB ((ay : Int) == (az : Int))) rfl) (Db rfl (bs hm (fun x hm => ?_) fun x hm => ?_))))))
      ·exact dps 4 x rfl (Mw.p rfl rfl (fun _ => R.pk x rfl (v := vB true) rfl) (Db rfl (dps 4 rfl rfl (Mw.p rfl rfl (fun _ => R.pk rfl rfl (v := vB true) rfl) (Mw.nil ((ag) ⟨true, ax, rfl, h, rfl, hm⟩))))))
      ·refine Wp x rfl (fun _ => R.fa rfl) (Wq x rfl (fun _ c => R.ld (v := vS A.Who) rfl rfl (i.clc rfl rfl c)) ?_)
       obtain ⟨bn, bp, hm⟩ := ob hm
       refine Wt x rfl (T.call rfl (p84   bp)) ?_
       rintro _ _ ⟨bq, rfl, N, rfl⟩
       have a0 := N.o
       refine m0 N fun br => Wp x rfl (fun _ => R.not rfl) (Mw.p rfl rfl (fun _ => R.pk x rfl (v := vB (!bn)) rfl) (Db rfl (bs hm (fun y hm => ?_) fun y hm => ?_)))
       ·exact dps 4 y rfl (Mw.p rfl rfl (fun _ => R.pk y rfl (v := vB true) rfl) (Mw.nil ((ag) ⟨true, bq, rfl, (h.j N).w, rfl, hm⟩)))
       ·refine Wp y rfl (fun _ => R.fa rfl) (Wq y rfl (fun _ c => R.ld (v := an) rfl rfl (i.clc rfl rfl c)) ?_)
        obtain ⟨a1, bu, hm⟩ := ob hm
        refine Wt y rfl (T.call rfl (p85  (r25.ul (((e.trans f).trans F).trans a0)) (ae.ul ((((d.trans e).trans f).trans F).trans a0)) bu)) ?_
        rintro _ _ ⟨bv, rfl, a3, rfl⟩
        exact mc br a3 fun cf => Wp y rfl (fun _ => R.not rfl) (Mw.p rfl rfl (fun _ => R.pk y rfl (v := vB (!a1)) rfl) (Mw.nil ((ag) ⟨(!a1), bv, rfl, ((h.j N).j a3).w, rfl, hm⟩)))
     ·refine dps 9 b rfl (Wp a rfl (fun _ => R.pk b rfl (v := vB false) rfl) (Mw.p rfl rfl (fun _ => R.pk a rfl (v := vB false) rfl) (Db rfl (Wp rfl rfl (fun _ => R.fa rfl) (Wq rfl rfl (fun _ c => R.ld (v := vS A.Who) rfl rfl (i.clc rfl rfl c)) ?_)))))
      obtain ⟨bw, bz, hm⟩ := ob hm
      refine Wt rfl rfl (T.call rfl (p84   bz)) ?_
      rintro _ _ ⟨b0, rfl, O, rfl⟩
      have a4 := O.o
      refine m0 O fun b2 => Wp rfl rfl (fun _ => R.not rfl) (Mw.p rfl rfl (fun _ => R.pk rfl rfl (v := vB (!bw)) rfl) (Db rfl (bs hm (fun z hm => ?_) fun z hm => ?_)))
      ·exact dps 4 z rfl (Mw.p rfl rfl (fun _ => R.pk z rfl (v := vB true) rfl) (Mw.nil ((ag) ⟨true, b0, rfl, (h.j O).w, rfl, hm⟩)))
      ·refine Wp z rfl (fun _ => R.fa rfl) (Wq z rfl (fun _ c => R.ld (v := an) rfl rfl (i.clc rfl rfl c)) ?_)
       obtain ⟨a5, b3, hm⟩ := ob hm
       refine Wt z rfl (T.call rfl (p85  (r25.ul (((e.trans f).trans F).trans a4)) (ae.ul ((((d.trans e).trans f).trans F).trans a4)) b3)) ?_
       rintro _ _ ⟨b4, rfl, a6, rfl⟩
       exact mc b2 a6 fun cg => Wp z rfl (fun _ => R.not rfl) (Mw.p rfl rfl (fun _ => R.pk z rfl (v := vB (!a5)) rfl) (Mw.nil ((ag) ⟨(!a5), b4, rfl, ((h.j O).j a6).w, rfl, hm⟩)))
  ·refine Cw.exit ?_
   rw [ba] at hm
   refine sr (la (G.up l10) (fl (G.up l10) rfl (ca hm (fun _ => p87 (Repo.rd (K := [0]) x0.Commits x0.Heads (C.ul d) (ah.ul d)) (ah.ul d)) fun ch ci hm b5 => ?_)))
   have b6 := d.n b5
   exact Nb rfl (.ret (rt hm b6))
theorem p22 {x0 a b r} (d : Rd W K [a, b] x0) (f : Gl 0 W K) (hm : Vm.zeT x0 = some r) : Q1 22 [.agg [a, b].toArray] W [] fun W' v => v = vB r :=
 (c22 (d.view _) (f.view _) hm).ad (fk 0) fun _ _ e => e
theorem c65 {x0 h i x1 r} (F : Rd W0 [0] [h, i] x0) (hm : Vm.zcO x0 x1 = some r) : Q0 65 [.agg [h, i].toArray, vS x1] W0 fun Wf v => v = vI r := by
 unfold Vm.zcO at hm
 obtain ⟨P, Q, k, S, e⟩ := Repo.split F
 simp only [List.cons.injEq, and_true, true_and] at k
 obtain ⟨rfl, rfl⟩ := k
 refine zau.of Tryz.func65 rfl rfl rfl rfl (sr (bo 2 rfl fun T x G H => ?_))
 have y := G.o
 refine Ni rfl (ssr (fl H rfl (Lw.ln x0.Heads (e.ul y) rfl (mi rfl (nl (Cw.block ?_))))))
 obtain ⟨I, J, hm⟩ := zbk hm
 refine Cw.loop 10 20 [4, 6, 10] (fun m l w => ∃ a b z f, CW.w f = w ∧ Le [3] x f ∧ l = [vI a, z, vI b] ∧ Vm.zb4 x0 x1 I m a b = some r) _ ⟨0, 0, undef, x, rfl, Le.refl _ _, rfl, hm⟩ ?_
 rintro (_ | U) _ _ σ ⟨a, b, z, f, rfl, A, rfl, hm⟩
 ·cases hm
 unfold Vm.zb4 at hm
 have d := y.t A
 refine sr (Lw.lt rfl (nl (Cw.seq (cn hm (fun hm => ?_) fun hm => ?_))))
 ·refine sk (Cw.seq (Cw.block (sr ?_)))
  obtain ⟨V, B, hm⟩ := ob hm
  refine Lw.r rfl (R.ix (α := Head) (e.ul d) B rfl rfl rfl) ?_
  obtain ⟨x16, c17, _, r18⟩ := ((e.ul d).at_ B).cells
  obtain rfl := Head.split r18
  refine Lw.r rfl (R.lda c17 rfl rfl) (al 3 [vS ([] : Str), vI 0] fun K W C L => ?_)
  have M := d.n C
  refine sta L (zaa rfl (zaa rfl zaF)) fun N D E => ?_
  have O := M.t D
  refine nl (sr (fl E rfl (ms rfl (Lw.seq rfl (nl (cn hm (fun hm => ?_) fun hm => ?_))))))
  ·exact sr (fl E rfl (Ni rfl (.ret (rt hm O))))
  ·exact sk (rg (Lw.add rfl (mi rfl (nl ((agm) ⟨a, w64 (b + 1), ptr (bx K), N, rfl, ((A.j C).j D).w, rfl, hm⟩)))))
 ·refine Cw.exit ?_
  rw [J] at hm
  exact sr (Ni rfl (.ret (rt hm d)))
theorem p65 {x0 a b x1 r} (d : Rd W K [a, b] x0) (hm : Vm.zcO x0 x1 = some r) : Q1 65 [.agg [a, b].toArray, vS x1] W [] fun W' v => v = vI r :=
 (c65 (d.view _) hm).ad (fk 0) fun _ _ e => e
theorem c144 {x0 a r} (f : Rd W0 [0] [a] x0) (hm : Vm.zcc x0 = some r) : Q0 144 [a] W0 fun Wf v => ∃ b, v = b ∧ OwS Wf LL [] [b] r := by
 unfold Vm.zcc at hm
 refine zau.of Tryz.func144 rfl rfl rfl rfl (sr (Nv (.slice none 0 0) rfl (sr (Lw.t rfl (T.lit0 (α := Str) 2 []) ?_))))
 rintro A _ ⟨B, rfl, h, i⟩
 have d := h.o
 refine mv a rfl ?_
 obtain ⟨C, k, hm⟩ := ob hm
 refine Lw.t rfl (T.appP (α := Str) i (f.ul d) rfl rfl k) ?_
 rintro e _ ⟨D, rfl, x, y⟩
 have z := d.t x
 refine Nv e rfl ?_
 cases hm
 exact Cw.ret (zjQ rfl (Res.mk z ⟨e, rfl, y.s.sub rfl rfl⟩))
theorem p144 {x0 b k0 r} (d : Rd W K [b] x0) (hm : Vm.zcc x0 = some r) : Q1 144 [b] W [] fun W' v => ∃ a, v = a ∧ Ow W' k0 [] [a] r :=
 (c144 (d.view _) hm).ad (fk k0) fun _ _ ⟨a, e, f⟩ => ⟨a, e, f.back (ziE _)⟩
theorem c89 {x0 H I x1 r} (Z : Rd W0 [0] [H, I] x0) (hm : Vm.zaQ x0 x1 = some r) : Q0 89 [.agg [H, I].toArray, vI x1] W0 fun Wf v => ∃ J, v = J ∧ OwS Wf LL [] [J] r := by
 unfold Vm.zaQ at hm
 obtain ⟨a0, a1, K, A, a3⟩ := Repo.split Z
 simp only [List.cons.injEq, and_true, true_and] at K
 obtain ⟨rfl, rfl⟩ := K
 refine zau.of Tryz.func89 rfl rfl rfl rfl (sr (bo 2 rfl fun g1 W1 l1 L => ?_))
 have M := l1.o
 refine Nv (.slice none 0 0) rfl (sr (fl L rfl (Lw.ln x0.Commits (A.ul M) rfl ?_)))
 obtain ⟨q4, e5, hm⟩ := ob hm
 refine Lw.t rfl (T.mk (α := Bool) 3 [] (n := (x0.Commits.length : Int)) rfl rfl e5) ?_
 rintro a _ ⟨W6, rfl, N, O⟩
 have a7 := M.n N
 refine Nv a rfl (sr (mv a rfl (mi rfl ?_)))
 obtain ⟨u9, af, hm⟩ := ob hm
 refine Lw.r rfl (R.ix (α := Bool) O.rd af rfl rfl rfl) ?_
 obtain ⟨ah, ai, hm⟩ := ob hm
 refine Lw.u (T.stS (K' := []) O (rdB _) ai rfl rfl rfl) ?_
 rintro _ _ ⟨P, rfl, Q, aj⟩
 have ak := a7.t Q
 refine nl (ssr (mi rfl (Ni rfl (Cw.block ?_))))
 obtain ⟨am, an, hm⟩ := zbk hm
 refine Cw.loop 17 39 [6, 8] (fun m l w => ∃ i d k b, CW.w b = w ∧ Le [3] P b ∧ l = [vI i, k] ∧ Ow b 3 [] [a] d ∧ Vm.zaD x0 am m i d = some r) _ ⟨x1, ah, undef, P, rfl, Le.refl _ _, rfl, aj, hm⟩ ?_
 rintro (_ | ba) _ _ σ ⟨i, d, k, b, rfl, B, rfl, e, hm⟩
 ·cases hm
 unfold Vm.zaD at hm
 have C := ak.t B
 refine ssr (mi rfl (Lw.ge rfl (nl (cn hm (fun hm => ?_) fun hm => ?_))))
 ·refine sk ?_
  obtain ⟨S, ao, hm⟩ := zbk hm
  refine Cw.join 21 39 [8] (fun l w => ∃ x D f, CW.w f = w ∧ Le [3] b f ∧ l = [D] ∧ Ow f 3 [] [a] x ∧ S x = some r) ?_ ?_
  ·rintro _ _ σ ⟨x, D, f, rfl, ap, rfl, aq, hm⟩
   rw [ao] at hm
   exact rg (mi rfl (Lw.sub rfl (Ni rfl ((agm) ⟨w64 (i - 1), x, D, f, rfl, (B.j ap).w, rfl, aq, hm⟩))))
  ·refine Cw.block (sr (mv a rfl (mi rfl ?_)))
   obtain ⟨bb, U, hm⟩ := ob hm
   refine Lw.r rfl (R.ix (α := Bool) e.rd U rfl rfl rfl) (Lw.r rfl (R.ld rfl rfl (e.rd.at_ U).bool) (nl (cn hm (fun hm => ?_) fun hm => ?_)))
   ·refine sr (fl (((L.up N).up Q).up B) rfl (mi rfl ?_))
    obtain ⟨V, W, hm⟩ := ob hm
    refine Lw.r rfl (R.ix (α := Commit) (A.ul C) W rfl rfl rfl) (Lw.fa rfl ?_)
    obtain ⟨bc, c40, r41⟩ := (Commit.at0 ((A.ul C).at_ W)).cell rfl
    refine Lw.r rfl (R.ld rfl rfl c40) (Lw.ln V.Parents r41 rfl (mi rfl (nl (Cw.block (Cw.loop 32 39 [8, 32] (fun m l w => ∃ y z E h, CW.w h = w ∧ Le [3] b h ∧ l = [E, vI y] ∧ Ow h 3 [] [a] z ∧ Vm.zaX S V m y z = some r) _ ⟨0, d, k, b, rfl, Le.refl _ _, rfl, e, hm⟩ ?_)))))
    rintro (_ | be) _ _ σ ⟨y, z, E, h, rfl, F, rfl, G, hm⟩
    ·cases hm
    unfold Vm.zaX at hm
    have X := F.s
    refine sr (Lw.lt rfl (nl (Cw.seq (cn hm (fun hm => ?_) fun hm => ?_))))
    ·refine sk (Cw.seq (Cw.block (sr ?_)))
     obtain ⟨ar, Y, hm⟩ := ob hm
     refine Lw.r rfl (R.ix (α := Int) (r41.ul X) Y rfl rfl rfl) (Lw.r rfl (R.ld rfl rfl ((r41.ul X).at_ Y).int) (Ni rfl (rg (mv a rfl (mi rfl ?_)))))
     obtain ⟨bg, au, hm⟩ := ob hm
     refine Lw.r rfl (R.ix (α := Bool) G.rd au rfl rfl rfl) ?_
     obtain ⟨av, aw, hm⟩ := ob hm
     refine Lw.u (T.stS (K' := []) G (rdB _) aw rfl rfl rfl) ?_
     rintro _ _ ⟨ax, rfl, ay, az⟩
     exact nl (rg (Lw.add rfl (mi rfl (nl ((agm) ⟨w64 (y + 1), av, vI ar, ax, rfl, (F.j ay).w, rfl, az, hm⟩)))))
    ·exact Cw.exit ((ag) ⟨z, E, h, rfl, F, rfl, G, hm⟩)
   ·exact sk ((ag) ⟨d, k, b, rfl, Le.refl _ _, rfl, e, hm⟩)
 ·refine Cw.exit ?_
  rw [an] at hm
  refine sr (mv a rfl (Nv a rfl ?_))
  cases hm
  exact Cw.ret (zjQ rfl (Res.mk C ⟨a, rfl, e.s.sub rfl rfl⟩))
theorem p89 {x0 b d x1 k0 r} (f : Rd W K [b, d] x0) (hm : Vm.zaQ x0 x1 = some r) : Q1 89 [.agg [b, d].toArray, vI x1] W [] fun W' v => ∃ a, v = a ∧ Ow W' k0 [] [a] r :=
 (c89 (f.view _) hm).ad (fk k0) fun _ _ ⟨a, e, h⟩ => ⟨a, e, h.back (ziE _)⟩
end Go.Sx
