/- Walks: each function answers as its model, printed by a program of ours. Conditions: the arguments read as they are given. -/
import Derived.Test.YtokbhelngoeblaaGreatDoorBTs
import Derived.Test.YtokbhelngoeblaaGreatDoorBM0
import Derived.Test.YtokbhelngoeblaaGreatDoorBW6
namespace Go.Sx
open Go Go.Proofs Go.Vm Rp
set_option linter.unusedVariables false
set_option linter.unusedSimpArgs false
variable {W W0 : CW} {K : List Nat}
theorem c217 {x0 k x1 x r} (y : Rd W0 [0] [k] x0) (z : Rd W0 [0] [x] x1) (hm : Vm.zjE x0 x1 = some r) : Q0 217 [k, x] W0 fun Wf v => ∃ u0, v = u0 ∧ OwS Wf LL [] [u0] r := by
 unfold Vm.zjE at hm
 refine zaI.of Tryz.func217 rfl rfl rfl rfl (sr (Nv (.slice none 0 0) rfl (sr (mv k rfl (Lw.ln x0 y rfl (Lw.add rfl ?_))))))
 obtain ⟨M, e2, hm⟩ := ob hm
 refine Lw.t rfl (T.mk (α := List Int) 2 [] (n := w64 ((x0.length : Int) + 1)) rfl rfl e2) ?_
 rintro a _ ⟨W3, rfl, l3, o3⟩
 have a4 := l3.o
 refine Nv a rfl (ssr (mv a rfl (Lw.ln M o3.rd rfl (mi rfl (nl (Cw.block ?_))))))
 obtain ⟨a1, a2, hm⟩ := zc1 hm
 refine Cw.loop 15 25 [6, 15] (fun m l w => ∃ A F j5 e, CW.w e = w ∧ Le [2, 3] W3 e ∧ l = [j5, vI A] ∧ Ow e 2 [] [a] F ∧ Vm.zev x1 M a1 m A F = some r) _ ⟨0, M, undef, W3, rfl, Le.refl _ _, rfl, o3, hm⟩ ?_
 rintro (_ | ce) _ _ σ ⟨A, F, j5, e, rfl, l9, rfl, N, hm⟩
 ·cases hm
 unfold Vm.zev at hm
 have O := a4.t l9
 refine sr (Lw.lt rfl (nl (Cw.seq (cn hm (fun hm => ?_) fun hm => ?_))))
 ·refine sk (Cw.seq (Cw.block (sr (mi rfl (Ni rfl (rg (mv a rfl (mi rfl (mv x rfl (Lw.ln x1 (z.ul O) rfl (Lw.add rfl ?_)))))))))))
  obtain ⟨cf, a3, hm⟩ := ob hm
  refine Lw.t rfl (T.mk (α := Int) 3 [] (n := w64 ((x1.length : Int) + 1)) rfl rfl a3) ?_
  rintro cg _ ⟨ch, rfl, P, am⟩
  obtain ⟨ci, a5, hm⟩ := ob hm
  refine Lw.r rfl (R.ix (α := List Int) (N.up P).rd a5 rfl rfl rfl) ?_
  obtain ⟨a6, a7, hm⟩ := ob hm
  refine Lw.u (T.stO (J := [3]) (N.up P) am.s a7 rfl rfl (zpz am.oc)) ?_
  rintro _ _ ⟨a8, rfl, a9, ba⟩
  exact nl (rg (Lw.add rfl (mi rfl (nl ((agm) ⟨w64 (A + 1), a6, vI A, a8, rfl, ((l9.j P).j a9).w, rfl, ba, hm⟩)))))
 ·refine Cw.exit ?_
  rw [a2] at hm
  refine ssr (mv k rfl (Lw.ln x0 (y.ul O) rfl (Lw.sub rfl (Ni rfl (Cw.block ?_)))))
  obtain ⟨bb, bc, hm⟩ := zc1 hm
  refine Cw.loop 29 87 [7, 8] (fun m l w => ∃ B G an f, CW.w f = w ∧ Le [2, 4, 5] e f ∧ l = [vI B, an] ∧ Ow f 2 [] [a] G ∧ Vm.zdd x0 x1 bb m B G = some r) _ ⟨w64 ((x0.length : Int) - 1), F, undef, e, rfl, Le.refl _ _, rfl, N, hm⟩ ?_
  rintro (_ | cj) _ _ σ ⟨B, G, an, f, rfl, ao, rfl, ap, hm⟩
  ·cases hm
  unfold Vm.zdd at hm
  have Q := O.t ao
  refine ssr (mi rfl (Lw.ge rfl (nl (cn hm (fun hm => ?_) fun hm => ?_))))
  ·refine sk (Cw.seq (Cw.block (sr (mv x rfl (Lw.ln x1 (z.ul Q) rfl (Lw.sub rfl (Ni rfl (Cw.block ?_))))))))
   obtain ⟨be, bg, hm⟩ := zc1 hm
   refine Cw.loop 36 87 [8] (fun m l w => ∃ C H h, CW.w h = w ∧ Le [2, 4, 5] f h ∧ l = [vI C] ∧ Ow h 2 [] [a] H ∧ Vm.zeu x0 x1 B be m C H = some r) _ ⟨w64 ((x1.length : Int) - 1), G, f, rfl, Le.refl _ _, rfl, ap, hm⟩ ?_
   rintro (_ | ck) _ _ σ ⟨C, H, h, rfl, S, rfl, U, hm⟩
   ·cases hm
   unfold Vm.zeu at hm
   have bh := Q.t S
   refine ssr (mi rfl (Lw.ge rfl (nl (cn hm (fun hm => ?_) fun hm => ?_))))
   ·refine sk ?_
    obtain ⟨bi, bj, hm⟩ := zc1 hm
    refine Cw.join 40 87 [] (fun l w => ∃ I D, CW.w D = w ∧ Le [2, 4, 5] h D ∧ l = [] ∧ Ow D 2 [] [a] I ∧ bi I = some r) ?_ ?_
    ·rintro _ _ σ ⟨I, D, rfl, bk, rfl, bl, hm⟩
     rw [bj] at hm
     exact rg (mi rfl (Lw.sub rfl (Ni rfl ((agm) ⟨w64 (C - 1), I, D, rfl, (S.j bk).w, rfl, bl, hm⟩))))
    ·refine Cw.block (Cw.seq (Cw.draw [] [(0, 0), (1, 0), (2, 0), (3, 1), (4, 0), (5, 0), (6, 0), (7, 1), (8, 0)] mixed (by kernel_rfl) fun cl E => ?_))
     have i := bh.n E
     refine Dv k rfl (Di rfl ?_)
     obtain ⟨cm, V, hm⟩ := ob hm
     refine Mw.p rfl rfl (fun _ => R.ix (α := Str) (y.ul i) V rfl rfl rfl) (Mw.q rfl rfl (fun _ c => R.ld rfl rfl (zaE ((y.ul i).at_ V).1 rfl ((y.ul i).at_ V).str c)) (Dv x rfl (Di rfl ?_)))
     obtain ⟨co, W, hm⟩ := ob hm
     refine Mw.p rfl rfl (fun _ => R.ix (α := Str) (z.ul i) W rfl rfl rfl) (Mw.q rfl rfl (fun _ c => R.ld rfl rfl (zaE ((z.ul i).at_ W).1 rfl ((z.ul i).at_ W).str c)) (Mw.p rfl rfl (fun _ => R.seq rfl rfl) (Mw.nil (cn hm (fun hm => ?_) fun hm => ?_))))
     ·refine Cw.draw [] [(0, 0), (1, 0), (2, 0), (3, 1), (4, 0), (5, 0), (6, 0), (7, 0), (8, 0), (9, 1), (10, 0), (11, 0), (12, 0), (13, 1), (14, 0), (15, 0), (16, 3)] mixed (by kernel_rfl) fun cp aq => ?_
      have d := (U.up E).up aq
      refine Dv a rfl (Di rfl ?_)
      obtain ⟨cq, K, hm⟩ := ob hm
      refine Mw.p rfl rfl (fun _ => R.ix (α := List Int) d.rd K rfl rfl rfl) ?_
      obtain ⟨cs, c66, r67⟩ := (d.rd.at_ K).cell rfl
      refine Mw.q rfl rfl (fun _ c => R.ld rfl rfl (zaE (d.rd.at_ K).1 rfl c66 c)) (Di rfl (Dv a rfl (Di rfl (Mw.p rfl rfl (fun _ => R.add rfl rfl) ?_))))
      obtain ⟨ct, X, hm⟩ := ob hm
      refine Mw.p rfl rfl (fun _ => R.ix (α := List Int) d.rd X rfl rfl rfl) ?_
      obtain ⟨cu, c71, r72⟩ := (d.rd.at_ X).cell rfl
      refine Mw.q rfl rfl (fun _ c => R.ld rfl rfl (zaE (d.rd.at_ X).1 rfl c71 c)) (Di rfl (Mw.p rfl rfl (fun _ => R.add rfl rfl) ?_))
      obtain ⟨cv, Y, hm⟩ := ob hm
      refine Mw.p rfl rfl (fun _ => R.ix (α := Int) r72 Y rfl rfl rfl) (Mw.q rfl rfl (fun _ c => R.ld rfl rfl (zaE (r72.at_ Y).1 rfl (r72.at_ Y).int c)) (Mw.p rfl rfl (fun _ => R.add rfl rfl) ?_))
      obtain ⟨cw, bm, hm⟩ := ob hm
      refine Mw.p rfl rfl (fun _ => R.ix (α := Int) r67 bm rfl rfl rfl) ?_
      obtain ⟨cx, bn, bp, bq, gb77⟩ := Ow.lend (α := List Int) (β := List Int) (j := 4) (jf := 0) d K (by rw [zk1]; exact c66) rfl
      rw [← bn]
      obtain ⟨cy, br, hm⟩ := ob hm
      refine Mw.lu rfl (T.stS (K' := []) bq (rdI _) br rfl rfl rfl) ?_
      rintro _ _ ⟨cz, rfl, ar, bu⟩
      obtain ⟨bv, bw, bz, b0, eq84, b1⟩ := gb77 _ _ ar bu
      obtain ⟨au, eqm84, hm⟩ := ob hm
      obtain rfl : au = b0 := Option.some.inj (eqm84.symm.trans eq84)
      rw [← bw]
      exact Mw.nil ((ag) ⟨au, bv, rfl, ((((E.j aq).j bp).j ar).j bz).w, rfl, b1, hm⟩)
     ·refine Cw.draw [] [(0, 0), (1, 0), (2, 0), (3, 1), (4, 0), (5, 0), (6, 0), (7, 0), (8, 0), (9, 1), (10, 0), (11, 0), (12, 1), (13, 0), (14, 0), (15, 0), (16, 1), (17, 0), (18, 0), (19, 0), (20, 1), (21, 0), (22, 0), (23, 3)] mixed (by kernel_rfl) fun c0 av => ?_
      have b := (U.up E).up av
      refine Dv a rfl (Di rfl ?_)
      obtain ⟨c1, L, hm⟩ := ob hm
      refine Mw.p rfl rfl (fun _ => R.ix (α := List Int) b.rd L rfl rfl rfl) ?_
      obtain ⟨c2, c92, r93⟩ := (b.rd.at_ L).cell rfl
      refine Mw.q rfl rfl (fun _ c => R.ld rfl rfl (zaE (b.rd.at_ L).1 rfl c92 c)) (Di rfl (Dv a rfl (Di rfl (Mw.p rfl rfl (fun _ => R.add rfl rfl) ?_))))
      obtain ⟨c3, Z, hm⟩ := ob hm
      refine Mw.p rfl rfl (fun _ => R.ix (α := List Int) b.rd Z rfl rfl rfl) ?_
      obtain ⟨c4, c97, r98⟩ := (b.rd.at_ Z).cell rfl
      refine Mw.q rfl rfl (fun _ c => R.ld rfl rfl (zaE (b.rd.at_ Z).1 rfl c97 c)) (Di rfl ?_)
      obtain ⟨c5, aa, hm⟩ := ob hm
      refine Mw.p rfl rfl (fun _ => R.ix (α := Int) r98 aa rfl rfl rfl) (Mw.q rfl rfl (fun _ c => R.ld rfl rfl (zaE (r98.at_ aa).1 rfl (r98.at_ aa).int c)) (Dv a rfl (Di rfl ?_)))
      obtain ⟨c6, ac, hm⟩ := ob hm
      refine Mw.p rfl rfl (fun _ => R.ix (α := List Int) b.rd ac rfl rfl rfl) ?_
      obtain ⟨c7, c104, r105⟩ := (b.rd.at_ ac).cell rfl
      refine Mw.q rfl rfl (fun _ c => R.ld rfl rfl (zaE (b.rd.at_ ac).1 rfl c104 c)) (Di rfl (Mw.p rfl rfl (fun _ => R.add rfl rfl) ?_))
      obtain ⟨c8, ae, hm⟩ := ob hm
      refine Mw.p rfl rfl (fun _ => R.ix (α := Int) r105 ae rfl rfl rfl) (Mw.q rfl rfl (fun _ c => R.ld rfl rfl (zaE (r105.at_ ae).1 rfl (r105.at_ ae).int c)) (Mw.p rfl rfl (fun _ => R.max rfl rfl) ?_))
      obtain ⟨c9, b2, hm⟩ := ob hm
      refine Mw.p rfl rfl (fun _ => R.ix (α := Int) r93 b2 rfl rfl rfl) ?_
      obtain ⟨da, b3, b4, b5, gb110⟩ := Ow.lend (α := List Int) (β := List Int) (j := 5) (jf := 0) b L (by rw [zk1]; exact c92) rfl
      rw [← b3]
      obtain ⟨db, b6, hm⟩ := ob hm
      refine Mw.lu rfl (T.stS (K' := []) b5 (rdI _) b6 rfl rfl rfl) ?_
      rintro _ _ ⟨dc, rfl, aw, b7⟩
      obtain ⟨b8, b9, cb, cc, eq117, cd⟩ := gb110 _ _ aw b7
      obtain ⟨ax, eqm117, hm⟩ := ob hm
      obtain rfl : ax = cc := Option.some.inj (eqm117.symm.trans eq117)
      rw [← b9]
      exact Mw.nil ((ag) ⟨ax, b8, rfl, ((((E.j av).j b4).j aw).j cb).w, rfl, cd, hm⟩)
   ·refine Cw.exit ?_
    rw [bg] at hm
    exact rg (mi rfl (Lw.sub rfl (Ni rfl ((agm) ⟨w64 (B - 1), H, vI C, h, rfl, (ao.j S).w, rfl, U, hm⟩))))
  ·refine Cw.exit ?_
   rw [bc] at hm
   refine sr (mv a rfl (Nv a rfl ?_))
   cases hm
   exact Cw.ret (zlh rfl (Res.mk Q ⟨a, rfl, ap.s.sub rfl rfl⟩))
theorem p217 {x0 b x1 d k0 r} (f : Rd W K [b] x0) (h : Rd W K [d] x1) (hm : Vm.zjE x0 x1 = some r) : Q1 217 [b, d] W [] fun W' v => ∃ a, v = a ∧ Ow W' k0 [] [a] r :=
 (c217 (f.view _) (h.view _) hm).ad (fk k0) fun _ _ ⟨a, e, i⟩ => ⟨a, e, i.back (zkb _)⟩
theorem c185 {x0 x x1 i r} (y : Rd W0 [0] [x] x0) (H : Rd W0 [0] [i] x1) (hm : Vm.zgT x0 x1 = some r) : Q0 185 [x, i] W0 fun Wf v => ∃ W, v = W ∧ OwS Wf LL [] [W] r := by
 unfold Vm.zgT at hm
 refine zaI.of Tryz.func185 rfl rfl rfl rfl (sr (Nv (.slice none 0 0) rfl (sr (mv x rfl (mv i rfl (cr hm (fun _ => p217 (k0 := 2) y H) ?_))))))
 rintro z1 I X hm l3 ⟨_, rfl, ap⟩
 have a4 := l3.o
 refine Nv I rfl (sr (Nv (.slice none 0 0) rfl (ssr (Gi rfl (Ni rfl (Cw.block ?_))))))
 obtain ⟨ar, au, hm⟩ := zc1 hm
 refine Cw.loop 12 70 [6, 7, 8] (fun m l w => ∃ A e d f z, CW.w z = w ∧ Le [3] X z ∧ l = [f, vI e, vI d] ∧ Ow z 3 [] [f] A ∧ Vm.zef x0 x1 z1 ar m A e d = some r) _ ⟨([] : List Int), 0, 0, .slice none 0 0, X, rfl, Le.refl _ _, rfl, owN 3 [], hm⟩ ?_
 rintro (_ | bg) _ _ σ ⟨A, e, d, f, z, rfl, l10, rfl, J, hm⟩
 ·cases hm
 unfold Vm.zef at hm
 have B := a4.t l10
 refine ssr (mi rfl (mv x rfl (Lw.ln x0 (y.ul B) rfl (Lw.lt rfl (nl (cn hm (fun hm => ?_) fun hm => ?_))))))
 ·refine sk (Cw.block (Cw.block ?_))
  obtain ⟨av, aw, hm⟩ := zc1 hm
  refine Cw.join 18 33 [18] (fun l w => ∃ K C, CW.w C = w ∧ Le [] z C ∧ l = [vB K] ∧ av K = some r) ?_ ?_
  ·rintro _ _ σ ⟨K, C, rfl, h, rfl, hm⟩
   rw [aw] at hm
   have ax := B.n h
   refine cn hm (fun hm => ?_) fun hm => ?_
   ·refine sr (mv f rfl (mi rfl (Lw.t rfl (T.bs 4 [vI d] (cs := [vI d]) rfl rfl (bsv rfl)) ?_)))
    rintro _ _ ⟨bh, bi, rfl, rfl, Y, ay⟩
    obtain ⟨az, a0, hm⟩ := ob hm
    refine Lw.t rfl (T.app1S (α := Int) (K' := []) ((J.up h).up Y) ay (rdI _) rfl rfl a0) ?_
    rintro Z _ ⟨a1, rfl, a2, a3⟩
    exact Nv Z rfl (sr (mi rfl (Lw.add rfl (Ni rfl (rg (mi rfl (Lw.add rfl (Ni rfl ((agm) ⟨az, w64 (e + 1), w64 (d + 1), Z, a1, rfl, (((l10.j h).j Y).j a2).w, rfl, a3, hm⟩)))))))))
   ·obtain ⟨a5, a6, hm⟩ := zc1 hm
    refine Cw.join 42 65 [42] (fun l w => ∃ L D, CW.w D = w ∧ Le [] C D ∧ l = [vB L] ∧ a5 L = some r) ?_ ?_
    ·rintro _ _ σ ⟨L, D, rfl, M, rfl, hm⟩
     rw [a6] at hm
     have aa := (J.up h).up M
     refine cn hm (fun hm => ?_) fun hm => ?_
     ·refine sr (mv f rfl (Lw.t rfl (T.bs 5 [vI (-1)] (cs := [vI (-1)]) rfl rfl (bsv rfl)) ?_))
      rintro _ _ ⟨bj, bk, rfl, rfl, ac, a7⟩
      obtain ⟨a8, a9, hm⟩ := ob hm
      refine Lw.t rfl (T.app1S (α := Int) (K' := []) (aa.up ac) a7 (rdI _) rfl rfl a9) ?_
      rintro ae _ ⟨ba, rfl, bb, bc⟩
      exact Nv ae rfl (rg (mi rfl (Lw.add rfl (Ni rfl ((agm) ⟨a8, w64 (e + 1), d, ae, ba, rfl, ((((l10.j h).j M).j ac).j bb).w, rfl, bc, hm⟩)))))
     ·exact rg (mi rfl (Lw.add rfl (Ni rfl ((agm) ⟨A, e, w64 (d + 1), f, D, rfl, ((l10.j h).j M).w, rfl, aa, hm⟩))))
    ·refine Cw.draw [] [(0, 0), (1, 0), (2, 0), (3, 0), (4, 0), (5, 0), (6, 0), (7, 0), (8, 0), (9, 1), (10, 0), (11, 0), (12, 1), (13, 0), (14, 0), (15, 0), (16, 1), (17, 0), (18, 0), (19, 0), (20, 1), (21, 0), (22, 0), (23, 0)] mixed (by kernel_rfl) fun af E => ?_
     have be := ax.n E
     have k := ((ap.up l10).up h).up E
     refine Di rfl (Dv i rfl (Mw.p rfl rfl (fun _ => zrU (xs := x1) (H.ul be) rfl) (Mw.p rfl rfl (fun _ => R.eq rfl rfl) (Db rfl (bs hm (fun a hm => ?_) fun a hm => ?_)))))
     ·exact dps 17 a rfl (Mw.p rfl rfl (fun _ => R.pk a rfl (v := vB true) rfl) (Hb rfl (Mw.nil ((ag) ⟨true, af, rfl, E, rfl, hm⟩))))
     ·refine Wp a rfl (fun _ => R.mv (v := I) rfl) (Wp a rfl (fun _ => R.mv (v := vI e) rfl) (Wp a rfl (fun _ => R.add rfl rfl) ?_))
      obtain ⟨bl, N, hm⟩ := ob hm
      refine Wp a rfl (fun _ => R.ix (α := List Int) k.rd N rfl rfl rfl) ?_
      obtain ⟨bm, c60, r61⟩ := (k.rd.at_ N).cell rfl
      refine Wq a rfl (fun _ c => R.ld rfl rfl (zaE (k.rd.at_ N).1 rfl c60 c)) (Wp a rfl (fun _ => R.mv (v := vI d) rfl) ?_)
      obtain ⟨ah, O, hm⟩ := ob hm
      refine Wp a rfl (fun _ => R.ix (α := Int) r61 O rfl rfl rfl) (Wq a rfl (fun _ c => R.ld rfl rfl (zaE (r61.at_ O).1 rfl (r61.at_ O).int c)) (Wp a rfl (fun _ => R.mv (v := I) rfl) (Wp a rfl (fun _ => R.mv (v := vI e) rfl) ?_)))
      obtain ⟨u64, P, hm⟩ := ob hm
      refine Wp a rfl (fun _ => R.ix (α := List Int) k.rd P rfl rfl rfl) ?_
      obtain ⟨bn, c67, r68⟩ := (k.rd.at_ P).cell rfl
      refine Wq a rfl (fun _ c => R.ld rfl rfl (zaE (k.rd.at_ P).1 rfl c67 c)) (Wp a rfl (fun _ => R.mv (v := vI d) rfl) (Wp a rfl (fun _ => R.add rfl rfl) ?_))
      obtain ⟨ai, Q, hm⟩ := ob hm
      exact Wp a rfl (fun _ => R.ix (α := Int) r68 Q rfl rfl rfl) (Wq a rfl (fun _ c => R.ld rfl rfl (zaE (r68.at_ Q).1 rfl (r68.at_ Q).int c)) (Wp a rfl (fun _ => R.ge rfl rfl) (Mw.p rfl rfl (fun _ => R.pk a rfl (v := vB (decide ((ai : Int) ≤ (ah : Int)))) rfl) (Hb rfl (Mw.nil ((ag) ⟨decide ((ai : Int) ≤ (ah : Int)), af, rfl, E, rfl, hm⟩))))))
  ·refine Cw.draw [] [(0, 0), (1, 0), (2, 0), (3, 0), (4, 0), (5, 0), (6, 0), (7, 0), (8, 1), (9, 0), (10, 0), (11, 0), (12, 1), (13, 0), (14, 0), (15, 0)] mixed (by kernel_rfl) fun aj S => ?_
   have F := B.n S
   have G := H.ul F
   refine Di rfl (Dv i rfl (Mw.p rfl rfl (fun _ => zrU (xs := x1) G rfl) (Mw.p rfl rfl (fun _ => R.lt rfl rfl) (Db rfl (bs hm (fun b hm => ?_) fun b hm => ?_)))))
   ·refine Wp b rfl (fun _ => R.mv (v := x) rfl) (Wp b rfl (fun _ => R.mv (v := vI e) rfl) ?_)
    obtain ⟨ak, U, hm⟩ := ob hm
    refine Wp b rfl (fun _ => R.ix (α := Str) (y.ul F) U rfl rfl rfl) (Wq b rfl (fun _ c => R.ld rfl rfl (zaE ((y.ul F).at_ U).1 rfl ((y.ul F).at_ U).str c)) (Wp b rfl (fun _ => R.mv (v := i) rfl) (Wp b rfl (fun _ => R.mv (v := vI d) rfl) ?_)))
    obtain ⟨am, V, hm⟩ := ob hm
    exact Wp b rfl (fun _ => R.ix (α := Str) G V rfl rfl rfl) (Wq b rfl (fun _ c => R.ld rfl rfl (zaE (G.at_ V).1 rfl (G.at_ V).str c)) (Wp b rfl (fun _ => R.seq rfl rfl) (Mw.p rfl rfl (fun _ => R.pk b rfl (v := vB (ak == am)) rfl) (Hb rfl (Mw.nil ((ag) ⟨(ak == am), aj, rfl, S, rfl, hm⟩))))))
   ·exact dps 9 b rfl (Mw.p rfl rfl (fun _ => R.pk b rfl (v := vB false) rfl) (Hb rfl (Mw.nil ((ag) ⟨false, aj, rfl, S, rfl, hm⟩))))
 ·refine Cw.exit ?_
  rw [au] at hm
  refine sr (mv f rfl (Nv f rfl ?_))
  cases hm
  exact Cw.ret (zlh rfl (Res.mk B ⟨f, rfl, J.s.sub rfl rfl⟩))
theorem p185 {x0 b x1 d k0 r} (f : Rd W K [b] x0) (h : Rd W K [d] x1) (hm : Vm.zgT x0 x1 = some r) : Q1 185 [b, d] W [] fun W' v => ∃ a, v = a ∧ Ow W' k0 [] [a] r :=
 (c185 (f.view _) (h.view _) hm).ad (fk k0) fun _ _ ⟨a, e, i⟩ => ⟨a, e, i.back (zkb _)⟩
theorem c263 {x0 i x1 k a r} (I : Rd W0 [0] [i] x0) (hB1 : Bx W0 2 k [a]) (b : Ow W0 3 [] [a] x1) (hm : Vm.zbz x0 x1 = some r) : Q0 263 [i, ptr (bx k)] W0 fun Wf v => ∃ uc1, v = .tuple #[] ∧ Ow Wf 3 [] [uc1] r ∧ Bx Wf 2 k [uc1] := by
 unfold Vm.zbz at hm
 refine zaI.of Tryz.func263 rfl rfl rfl rfl (ssr (mv i rfl (Lw.ln x0 I rfl (Lw.eq rfl (nl (cn hm (fun hm => ?_) fun hm => ?_))))))
 ·cases hm
  exact Cw.ret (zyJ (Res.mk (Le.refl _ _) ⟨a, rfl, b, hB1⟩))
 ·refine sk (sr (Lw.r rfl (R.ld (v := a) rfl rfl (hB1.cell0 rfl)) (Lw.ln x1 b.rd rfl (Lw.sub rfl (Ni rfl ?_)))))
  obtain ⟨U, V, hm⟩ := zc1 hm
  refine Cw.join 10 24 [3] (fun l w => ∃ A B d e, CW.w e = w ∧ Le [2, 3] W0 e ∧ l = [vI A] ∧ Ow e 3 [] [d] B ∧ Bx e 2 k [d] ∧ U A B = some r) ?_ ?_
  ·rintro _ _ σ ⟨A, B, d, e, rfl, W, rfl, X, Y, hm⟩
   rw [V] at hm
   have Z := W.s
   refine Cw.draw [3, 4] [(0, 1), (1, 0), (2, 1), (3, 0), (4, 0), (5, 0), (7, 0), (6, 2), (8, 2), (9, 0), (10, 0), (11, 3)] mixed (by kernel_rfl) fun az l10 => ?_
   have aa := Z.n l10
   have x := X.up l10
   have C := Y.up l10
   refine Mw.q rfl rfl (fun _ c => R.ld (v := d) rfl rfl (C.clc0 rfl rfl c)) (Di rfl (Mw.q rfl rfl (fun _ c => R.ld (v := d) rfl rfl (C.clc0 rfl rfl c)) (Di rfl ?_)))
   obtain ⟨a0, D, hm⟩ := ob hm
   refine Mw.p rfl rfl (fun _ => R.ix (α := Part) x.rd D rfl rfl rfl) (Df rfl (Dv i rfl ?_))
   obtain ⟨a1, c17, r18⟩ := (Part.at1 (x.rd.at_ D)).cell rfl
   refine Mw.t rfl rfl (Run.tr (R.ld rfl rfl c17)) ?_
   rintro _ _ ⟨hu, rfl⟩
   obtain rfl := hu.symm
   refine ⟨⟨_, rfl, (Le.refl _ _)⟩, ?_⟩
   obtain ⟨a2, ac, E, ae, af⟩ := Ow.take (α := Part) (β := List Str) (j := 4) (jf := 1) x D c17 rfl
   rw [← ac]
   have K := aa.t E
   obtain ⟨a3, ah, hm⟩ := ob hm
   refine Mw.t rfl rfl (T.appP (α := Str) ae (I.ul K) rfl rfl ah) ?_
   rintro a4 _ ⟨a5, rfl, y, ai⟩
   have aj := K.t y
   refine ⟨⟨_, rfl, ((E.sub (M := [3, 4]) rfl).trans (y.sub (M := [3, 4]) rfl))⟩, ?_⟩
   obtain ⟨a6, ak, hm⟩ := ob hm
   refine Mw.p rfl rfl (fun _ => R.ix (α := Part) x.rd ak rfl rfl rfl) (Df rfl ?_)
   obtain ⟨a7, am, hm⟩ := ob hm
   refine Mw.lu rfl (T.stH (α := Part) (β := List Str) (J := [4]) (af.up (y.sub (M := [4]) rfl) rfl) ai.s am rfl rfl rfl rfl) ?_
   rintro _ _ ⟨a8, rfl, L, an⟩
   have ao := aj.t L
   refine Mw.nil ?_
   cases hm
   show ztv _ _ _ .ret _ _
   exact zyJ (Res.mk ao ⟨d, rfl, an, (((C.up E).up y).up L)⟩)
  ·obtain ⟨ap, aq, hm⟩ := zc1 hm
   refine Cw.join 10 18 [18] (fun l w => ∃ F z, CW.w z = w ∧ Le [] W0 z ∧ l = [vB F] ∧ ap F = some r) ?_ ?_
   ·rintro _ _ σ ⟨F, z, rfl, f, rfl, hm⟩
    rw [aq] at hm
    have G := hB1.up f
    refine cn hm (fun hm => ?_) fun hm => ?_
    ·refine sr (lz G rfl (Lw.r rfl (R.bd (zs := [vB false, .slice none 0 0, .slice none 0 0, .slice none 0 0, .slice none 0 0]) (cs := [vB false, .slice none 0 0, .slice none 0 0, .slice none 0 0, .slice none 0 0]) [] rfl rfl rfl zfH) (Lw.t rfl (T.bs 5 [.agg [vB false, .slice none 0 0, .slice none 0 0, .slice none 0 0, .slice none 0 0].toArray] (cs := [vB false, .slice none 0 0, .slice none 0 0, .slice none 0 0, .slice none 0 0]) rfl rfl (bsA rfl)) ?_)))
     rintro _ _ ⟨ba, bb, rfl, rfl, H, ar⟩
     obtain ⟨au, av, hm⟩ := ob hm
     refine Lw.t rfl (T.app1 (α := Part) (J := []) (K' := []) ((b.up f).up H) ar (Part.own false ([] : List Str) ([] : List Str) ([] : List Str) ([] : List Str) (zoh []) (zoh []) (zoh []) (zoh [])) rfl rfl av) ?_
     rintro N _ ⟨bc, rfl, O, P⟩
     refine Lw.u (T.st0 (v := N) ((G.up H).up O) rfl rfl P.oc rfl rfl) ?_
     rintro _ _ ⟨aw, rfl, Q, ax⟩
     exact nl (rg (mi rfl (Lw.add rfl (Ni rfl ((ag) ⟨w64 ((w64 ((x1.length : Int) - 1)) + 1), au, N, aw, rfl, (((f.j H).j O).j Q).w, rfl, (P.up Q), ax, hm⟩)))))
    ·exact sk ((ag) ⟨w64 ((x1.length : Int) - 1), x1, a, z, rfl, f.w, rfl, (b.up f), G, hm⟩)
   ·refine rg (mi rfl (Lw.lt rfl (mb rfl (bs hm (fun h hm => ?_) fun h hm => ?_))))
    ·exact psk 5 h rfl (Pb h rfl (nl ((ag) ⟨true, W0, rfl, Le.refl _ _, rfl, hm⟩)))
    ·refine wak 5 h (Lw.r rfl (R.ld (v := a) rfl rfl (hB1.cell0 rfl)) (mi rfl ?_))
     obtain ⟨ay, S, hm⟩ := ob hm
     exact Lw.r rfl (R.ix (α := Part) b.rd S rfl rfl rfl) (Lw.fa rfl (Lw.r rfl (R.ld rfl rfl (Part.at0 (b.rd.at_ S)).bool) (Pb h rfl (nl ((ag) ⟨ay.Clash, W0, rfl, Le.refl _ _, rfl, hm⟩)))))
theorem p263 {x0 b x1 a d c0 c1 r} (f : Rd W K [b] x0) (hB1 : Bx W c0 a [d]) (h : Ow W c1 [] [d] x1) (hJ : okJ K [c0, c1] = true) (hm : Vm.zbz x0 x1 = some r) : Q1 263 [b, ptr (bx a)] W [c0, c1] fun W' v => ∃ uc1, v = .tuple #[] ∧ Ow W' c1 [] [uc1] r ∧ Bx W' c0 a [uc1] :=
 zaI.adJ (J := [c0, c1]) (fun c => bif Nat.beq c 0 then 0 else bif Nat.beq c 2 then c0 else bif Nat.beq c 3 then c1 else 0) (c263 (f.view _) (hB1.viewJ 0 hJ) (h.viewJ 1 hJ) hm) fun _ _ ⟨uc1, e, i, k⟩ => ⟨uc1, e, Ow.backJ 1 i rfl, Bx.backJ 0 k rfl⟩
theorem c250 {x0 b x1 d x2 e r} (z : Rd W0 [0] [b] x0) (X : Rd W0 [0] [d] x1) (Y : Rd W0 [0] [e] x2) (hm : Vm.zfy x0 x1 x2 = some r) : Q0 250 [b, d, e] W0 fun Wf v => ∃ u0, v = u0 ∧ OwS Wf LL [] [u0] r := by
 unfold Vm.zfy at hm
 refine zaI.of Tryz.func250 rfl rfl rfl rfl (sr (Nv (.slice none 0 0) rfl (sr (mv b rfl (mv d rfl (cr hm (fun _ => p185 (k0 := 2) z X) ?_))))))
 rintro z1 fe W3 hm l3 ⟨_, rfl, c3⟩
 have a4 := l3.o
 refine mv d rfl (Lw.ln x1 (X.ul a4) rfl (Lw.t rfl (T.bs 3 [vI (x1.length : Int)] (cs := [vI (x1.length : Int)]) rfl rfl (bsv rfl)) ?_))
 rintro _ _ ⟨g6, W6, rfl, rfl, l6, b6⟩
 have a7 := a4.n l6
 obtain ⟨q9, c6, hm⟩ := ob hm
 refine Lw.t rfl (T.app1S (α := Int) (K' := []) (c3.up l6) b6 (rdI _) rfl rfl c6) ?_
 rintro O _ ⟨fi, rfl, c7, c8⟩
 have ay := a7.t c7
 refine mv b rfl (mv e rfl (cr hm (fun _ => p185 (k0 := 4) (z.ul ay) (Y.ul ay)) ?_))
 rintro fj fm fn hm b3 ⟨_, rfl, c9⟩
 have b4 := ay.n b3
 refine mv e rfl (Lw.ln x2 (Y.ul b4) rfl (Lw.t rfl (T.bs 5 [vI (x2.length : Int)] (cs := [vI (x2.length : Int)]) rfl rfl (bsv rfl)) ?_))
 rintro _ _ ⟨fo, fp, rfl, rfl, az, da⟩
 have db := b4.n az
 obtain ⟨dc, dd, hm⟩ := ob hm
 refine Lw.t rfl (T.app1S (α := Int) (K' := []) (c9.up az) da (rdI _) rfl rfl dd) ?_
 rintro Z _ ⟨fq, rfl, b5, de⟩
 have df := db.t b5
 refine Gv O rfl (Nv Z rfl (sr (al 6 [.slice none 0 0] fun f b7 a0 dg => ?_)))
 have dh := df.n a0
 have b8 := (((c8.up b3).up az).up b5).up a0
 refine nl (sr (Lw.r rfl (R.mkF (vs := [ptr (bx f)]) rfl) (Nv (.func (.func 263) #[] [ptr (bx f)].toArray) rfl (sr (Gi rfl (Gi rfl (Ni rfl (ssr (mv O rfl (Lw.ln q9 b8.rd rfl (mi rfl (nl (Cw.block ?_)))))))))))))
 obtain ⟨di, dj, hm⟩ := zc1 hm
 refine Cw.loop 35 120 [11, 12, 13, 14, 15, 16, 17, 35] (fun m l w => ∃ k h i a I b9 a1 a2 a3 A x, CW.w x = w ∧ Le [6, 7, 8, 9, 10] b7 x ∧ l = [vI k, vI h, vI i, b9, a1, a2, a3, vI a] ∧ Ow x 7 [] [A] I ∧ Bx x 6 f [A] ∧ Vm.zaG x0 x1 x2 q9 dc di m k h i a I = some r) _ ⟨0, 0, 0, 0, ([] : List Part), undef, undef, undef, undef, .slice none 0 0, b7, rfl, Le.refl _ _, rfl, owN 7 [], dg, hm⟩ ?_
 rintro (_ | fr) _ _ σ ⟨k, h, i, a, I, b9, a1, a2, a3, A, x, rfl, aa, rfl, a5, a6, hm⟩
 ·cases hm
 unfold Vm.zaG at hm
 have cb := dh.t aa
 have a8 := b8.up aa
 have a9 := (de.up a0).up aa
 refine sr (Lw.lt rfl (nl (Cw.seq (cn hm (fun hm => ?_) fun hm => ?_))))
 ·refine sk ?_
  obtain ⟨dk, dl, hm⟩ := zc1 hm
  refine Cw.join 37 119 [11, 12, 13, 14, 15, 16, 17] (fun l w => ∃ ac ae af ah ba bb bc be ai K, CW.w K = w ∧ Le [6, 7, 8, 9, 10] x K ∧ l = [vI ac, vI ae, vI af, ba, bb, bc, be] ∧ Ow K 7 [] [ai] ah ∧ Bx K 6 f [ai] ∧ dk ac ae af ah = some r) ?_ ?_
  ·rintro _ _ σ ⟨ac, ae, af, ah, ba, bb, bc, be, ai, K, rfl, dm, rfl, dn, dp, hm⟩
   rw [dl] at hm
   exact rg (Lw.add rfl (mi rfl (nl ((agm) ⟨ac, ae, af, w64 (a + 1), ah, ba, bb, bc, be, ai, K, rfl, (aa.j dm).w, rfl, dn, dp, hm⟩))))
  ·refine Cw.block (sr (mi rfl (Ni rfl (Cw.seq ?_))))
   obtain ⟨dq, dr, hm⟩ := zc1 hm
   refine Cw.join 38 49 [49] (fun l w => ∃ bg aj, CW.w aj = w ∧ Le [] x aj ∧ l = [vB bg] ∧ dq bg = some r) ?_ ?_
   ·rintro _ _ σ ⟨bg, aj, rfl, y, rfl, hm⟩
    rw [dr] at hm
    have ds := cb.n y
    refine cn hm (fun hm => ?_) fun hm => ?_
    ·exact Cw.exit ((ag) ⟨k, h, i, I, vI a, a1, a2, a3, A, aj, rfl, y.w, rfl, (a5.up y), (a6.up y), hm⟩)
    ·refine sk (Cw.seq (Cw.draw [] [(0, 0), (1, 0), (2, 0), (3, 0), (4, 0), (5, 0), (6, 0), (7, 0), (8, 0), (9, 1), (10, 0), (11, 0), (12, 0), (13, 0), (14, 0), (15, 0), (16, 1), (17, 0), (18, 0), (19, 0), (20, 0)] mixed (by kernel_rfl) fun cc L => ?_))
     have B := ds.n L
     have ak := (a8.up y).up L
     have am := (a9.up y).up L
     refine Dv b rfl (Di rfl (Di rfl ?_))
     obtain ⟨fs, cd, hm⟩ := ob hm
     have r103 := (z.ul B).cutV cd
     refine Mw.p rfl rfl (fun _ => R.sl (z.ul B) cd rfl (.inr rfl) (.inr rfl)) (Dv d rfl (Di rfl (Dv O rfl (Di rfl ?_))))
     obtain ⟨C, bh, hm⟩ := ob hm
     refine Mw.p rfl rfl (fun _ => R.ix (α := Int) ak.rd bh rfl rfl rfl) (Mw.q rfl rfl (fun _ c => R.ld rfl rfl (zaE (ak.rd.at_ bh).1 rfl (ak.rd.at_ bh).int c)) ?_)
     obtain ⟨ft, ce, hm⟩ := ob hm
     have r110 := (X.ul B).cutV ce
     refine Mw.p rfl rfl (fun _ => R.sl (X.ul B) ce rfl (.inr rfl) (.inr rfl)) (Dv e rfl (Di rfl (Dv Z rfl (Di rfl ?_))))
     obtain ⟨D, bi, hm⟩ := ob hm
     refine Mw.p rfl rfl (fun _ => R.ix (α := Int) am.rd bi rfl rfl rfl) (Mw.q rfl rfl (fun _ c => R.ld rfl rfl (zaE (am.rd.at_ bi).1 rfl (am.rd.at_ bi).int c)) ?_)
     obtain ⟨fu, cf, hm⟩ := ob hm
     have r117 := (Y.ul B).cutV cf
     refine Mw.p rfl rfl (fun _ => R.sl (Y.ul B) cf rfl (.inr rfl) (.inr rfl)) (Hv (znQ b (k : Int).toNat (a : Int).toNat (Rp.sz (Str))) rfl (Hv (znQ d (h : Int).toNat (C : Int).toNat (Rp.sz (Str))) rfl (Hv (znQ e (i : Int).toNat (D : Int).toNat (Rp.sz (Str))) rfl (Mw.nil ?_))))
     obtain ⟨dt, du, hm⟩ := zc1 hm
     refine Cw.join 68 96 [] (fun l w => ∃ P an E, CW.w E = w ∧ Le [6, 7, 8, 9, 10] cc E ∧ l = [] ∧ Ow E 7 [] [an] P ∧ Bx E 6 f [an] ∧ dt P = some r) ?_ ?_
     ·rintro _ _ σ ⟨P, an, E, rfl, ao, rfl, cg, ch, hm⟩
      rw [du] at hm
      have bj := B.t ao
      obtain ⟨dv, dw, hm⟩ := zc1 hm
      refine Cw.join 97 107 [] (fun l w => ∃ ap aq Q, CW.w Q = w ∧ Le [6, 7] E Q ∧ l = [] ∧ Ow Q 7 [] [aq] ap ∧ Bx Q 6 f [aq] ∧ dv ap = some r) ?_ ?_
      ·rintro _ _ σ ⟨ap, aq, Q, rfl, bk, rfl, dx, dy, hm⟩
       rw [dw] at hm
       refine Cw.draw [] [(0, 0), (1, 0), (2, 0), (3, 0), (4, 0), (5, 1), (6, 0), (7, 0), (8, 0), (9, 0), (10, 1), (11, 0), (12, 0), (13, 0), (14, 0)] mixed (by kernel_rfl) fun dz S => ?_
       have bl := ((ak.up ao).up bk).up S
       have bm := ((am.up ao).up bk).up S
       refine Di rfl (Mw.p rfl rfl (fun _ => R.add rfl rfl) (Dv O rfl (Di rfl ?_)))
       obtain ⟨d0, bn, hm⟩ := ob hm
       refine Mw.p rfl rfl (fun _ => R.ix (α := Int) bl.rd bn rfl rfl rfl) (Mw.q rfl rfl (fun _ c => R.ld rfl rfl (zaE (bl.rd.at_ bn).1 rfl (bl.rd.at_ bn).int c)) (Mw.p rfl rfl (fun _ => R.add rfl rfl) (Dv Z rfl (Di rfl ?_))))
       obtain ⟨d1, bp, hm⟩ := ob hm
       exact Mw.p rfl rfl (fun _ => R.ix (α := Int) bm.rd bp rfl rfl rfl) (Mw.q rfl rfl (fun _ c => R.ld rfl rfl (zaE (bm.rd.at_ bp).1 rfl (bm.rd.at_ bp).int c)) (Mw.p rfl rfl (fun _ => R.add rfl rfl) (Hi rfl (Hi rfl (Hi rfl (Mw.nil ((ag) ⟨w64 (a + 1), w64 (d0 + 1), w64 (d1 + 1), ap, vI a, (znQ b (k : Int).toNat (a : Int).toNat (Rp.sz (Str))), (znQ d (h : Int).toNat (C : Int).toNat (Rp.sz (Str))), (znQ e (i : Int).toNat (D : Int).toNat (Rp.sz (Str))), aq, dz, rfl, ((((y.j L).j ao).j bk).j S).w, rfl, (dx.up S), (dy.up S), hm⟩)))))))
      ·refine sr (mi rfl (mv b rfl (Lw.ln x0 (z.ul bj) rfl (Lw.lt rfl (nl (cn hm (fun hm => ?_) fun hm => ?_))))))
       ·refine rg (mv (.func (.func 263) #[] [ptr (bx f)].toArray) rfl (mv b rfl (mi rfl (mi rfl (Lw.add rfl ?_)))))
        obtain ⟨fv, ci, hm⟩ := ob hm
        have r157 := (z.ul bj).cutV ci
        refine Lw.r rfl (R.sl (z.ul bj) ci rfl (.inr rfl) (.inr rfl)) ?_
        obtain ⟨d2, d3, hm⟩ := ob hm
        refine Lw.t rfl (T.callV (vals := [(znQ b (a : Int).toNat (w64 (a + 1) : Int).toNat (Rp.sz (Str)))]) (caps := [ptr (bx f)]) rfl rfl (p263  (c0 := 6) (c1 := 7) (x1 := P) r157 ch cg rfl d3)) ?_
        rintro _ _ ⟨d4, rfl, d5, ⟨d6, rfl, d7, d8⟩⟩
        exact nl ((ag) ⟨d2, d6, d4, rfl, d5, rfl, d7, d8, hm⟩)
       ·exact sk ((ag) ⟨P, an, E, rfl, Le.refl _ _, rfl, cg, ch, hm⟩)
     ·refine Cw.block ?_
      obtain ⟨d9, ea, hm⟩ := zc1 hm
      refine Cw.join 78 86 [78] (fun l w => ∃ bq br, CW.w br = w ∧ Le [] cc br ∧ l = [vB bq] ∧ d9 bq = some r) ?_ ?_
      ·rintro _ _ σ ⟨bq, br, rfl, M, rfl, hm⟩
       rw [ea] at hm
       have ar := M.o
       have bu := ((a5.up y).up L).up M
       have bv := ((a6.up y).up L).up M
       refine cn hm (fun hm => ?_) fun hm => ?_
       ·refine rg (mv (.func (.func 263) #[] [ptr (bx f)].toArray) rfl (mv (znQ e (i : Int).toNat (D : Int).toNat (Rp.sz (Str))) rfl ?_))
        obtain ⟨eb, ec, hm⟩ := ob hm
        refine Lw.t rfl (T.callV (vals := [(znQ e (i : Int).toNat (D : Int).toNat (Rp.sz (Str)))]) (caps := [ptr (bx f)]) rfl rfl (p263  (c0 := 6) (c1 := 7) (x1 := I) (r117.ul ar) bv bu rfl ec)) ?_
        rintro _ _ ⟨ed, rfl, ee, ⟨ef, rfl, eg, eh⟩⟩
        exact nl ((ag) ⟨eb, ef, ed, rfl, (M.j ee).w, rfl, eg, eh, hm⟩)
       ·refine sr (mv (znQ e (i : Int).toNat (D : Int).toNat (Rp.sz (Str))) rfl (mv (znQ b (k : Int).toNat (a : Int).toNat (Rp.sz (Str))) rfl (ca hm (fun _ => p152 (r117.ul ar) (r103.ul ar)) fun fw fx hm F => ?_)))
        have cj := ar.n F
        refine Nb rfl (cn hm (fun hm => ?_) fun hm => ?_)
        ·refine rg (mv (.func (.func 263) #[] [ptr (bx f)].toArray) rfl (mv (znQ d (h : Int).toNat (C : Int).toNat (Rp.sz (Str))) rfl ?_))
         obtain ⟨ei, ej, hm⟩ := ob hm
         refine Lw.t rfl (T.callV (vals := [(znQ d (h : Int).toNat (C : Int).toNat (Rp.sz (Str)))]) (caps := [ptr (bx f)]) rfl rfl (p263  (c0 := 6) (c1 := 7) (x1 := I) (r110.ul cj) (bv.up F) (bu.up F) rfl ej)) ?_
         rintro _ _ ⟨ek, rfl, el, ⟨em, rfl, en, eo⟩⟩
         exact nl ((ag) ⟨ei, em, ek, rfl, ((M.j F).j el).w, rfl, en, eo, hm⟩)
        ·refine Cw.draw [] [(0, 1), (1, 0), (3, 0), (5, 0), (2, 2), (4, 2), (6, 2), (7, 0), (8, 2), (9, 3), (10, 3)] mixed (by kernel_rfl) fun fy au => ?_
         have ck := cj.n au
         have cl := (bv.up F).up au
         refine Mw.q rfl rfl (fun _ c => R.ld (v := A) rfl rfl (cl.clc0 rfl rfl c)) (Dv (znQ b (k : Int).toNat (a : Int).toNat (Rp.sz (Str))) rfl (Dv (znQ d (h : Int).toNat (C : Int).toNat (Rp.sz (Str))) rfl (Dv (znQ e (i : Int).toNat (D : Int).toNat (Rp.sz (Str))) rfl ?_)))
         obtain ⟨ep, er, hm⟩ := ob hm
         refine Mw.t rfl rfl (T.call rfl (p144 (k0 := 8) (r103.ul ck) er)) ?_
         rintro av _ ⟨fz, rfl, U, ⟨_, rfl, es⟩⟩
         have cm := ck.n U
         refine m0 U fun et => ?_
         obtain ⟨eu, ew, hm⟩ := ob hm
         refine Mw.t rfl rfl (T.call rfl (p144 (k0 := 9) (r110.ul cm) ew)) ?_
         rintro aw _ ⟨f0, rfl, N, ⟨_, rfl, co⟩⟩
         have ex := cm.n N
         refine mc et N fun ey => ?_
         obtain ⟨ez, e0, hm⟩ := ob hm
         refine Mw.t rfl rfl (T.call rfl (p144 (k0 := 10) (r117.ul ex) e0)) ?_
         rintro ax _ ⟨f1, rfl, G, ⟨_, rfl, cp⟩⟩
         have cq := (es.up N).up G
         refine mc ey G fun e1 => Mw.p rfl rfl (fun _ => R.bd (zs := [vB false, .slice none 0 0, .slice none 0 0, .slice none 0 0, .slice none 0 0]) (cs := [vB true, .slice none 0 0, av, aw, ax]) [(0, vB true), (2, av), (3, aw), (4, ax)] rfl rfl rfl (zbo rfl rfl (zbo cq.oc rfl (zbo (co.up G).oc rfl (zbo cp.oc rfl zfH))))) (Mw.t rfl rfl (T.bs 11 [.agg [vB true, .slice none 0 0, av, aw, ax].toArray] (cs := [vB true, .slice none 0 0, av, aw, ax]) rfl rfl (bsA rfl)) ?_)
         rintro _ _ ⟨f2, f3, rfl, rfl, H, e2⟩
         refine mc e1 H fun f4 => ?_
         obtain ⟨e3, e4, hm⟩ := ob hm
         refine Mw.l rfl rfl (T.app1 (α := Part) (J := [8, 9, 10]) (K' := []) ((((((bu.up F).up au).up U).up N).up G).up H) e2 (Part.own true ([] : List Str) ep eu ez (zoh []) (cq.up H).s ((co.up G).up H).s (cp.up H).s) rfl rfl e4) ?_
         rintro ct _ ⟨f5, rfl, cu, cv⟩
         refine Mw.lu rfl (T.st0 (v := ct) (((((cl.up U).up N).up G).up H).up cu) rfl rfl cv.oc rfl rfl) ?_
         rintro _ _ ⟨e5, rfl, cw, e6⟩
         exact Mw.nil ((ag) ⟨e3, ct, e5, rfl, ((((((((M.j F).j au).j U).j N).j G).j H).j cu).j cw).w, rfl, (cv.up cw), e6, hm⟩)
      ·refine rg (mv (znQ d (h : Int).toNat (C : Int).toNat (Rp.sz (Str))) rfl (mv (znQ b (k : Int).toNat (a : Int).toNat (Rp.sz (Str))) rfl (ca hm (fun _ => p152 r110 r103) fun f6 e7 hm bw => ?_)))
       have cx := bw.o
       refine mb rfl (bs hm (fun V hm => ?_) fun V hm => ?_)
       ·exact psk 3 V rfl (Pb V rfl (Nb rfl ((ag) ⟨true, e7, rfl, bw, rfl, hm⟩)))
       ·exact wak 3 V (mv (znQ d (h : Int).toNat (C : Int).toNat (Rp.sz (Str))) rfl (mv (znQ e (i : Int).toNat (D : Int).toNat (Rp.sz (Str))) rfl (ca hm (fun _ => p152 (r110.ul cx) (r117.ul cx)) fun e8 e9 hm fb => Pb V rfl (Nb rfl ((ag) ⟨e8, e9, rfl, (bw.j fb).w, rfl, hm⟩)))))
   ·refine rg (mv O rfl (mi rfl ?_))
    obtain ⟨f7, cy, hm⟩ := ob hm
    refine Lw.r rfl (R.ix (α := Int) a8.rd cy rfl rfl rfl) (Lw.r rfl (R.ld rfl rfl (a8.rd.at_ cy).int) (Lw.lt rfl (mb rfl (bs hm (fun W hm => ?_) fun W hm => ?_))))
    ·exact psk 5 W rfl (Pb W rfl (nl ((ag) ⟨true, x, rfl, Le.refl _ _, rfl, hm⟩)))
    ·refine wak 5 W (mv Z rfl (mi rfl ?_))
     obtain ⟨fc, cz, hm⟩ := ob hm
     exact Lw.r rfl (R.ix (α := Int) a9.rd cz rfl rfl rfl) (Lw.r rfl (R.ld rfl rfl (a9.rd.at_ cz).int) (Lw.lt rfl (Pb W rfl (nl ((ag) ⟨decide ((fc : Int) < (0 : Int)), x, rfl, Le.refl _ _, rfl, hm⟩)))))
 ·refine Cw.exit ?_
  rw [dj] at hm
  refine sr (lz a6 rfl (Nv A rfl ?_))
  cases hm
  exact Cw.ret (zlh rfl (Res.mk cb ⟨A, rfl, a5.s.sub rfl rfl⟩))
theorem p250 {x0 b x1 d x2 f k0 r} (h : Rd W K [b] x0) (i : Rd W K [d] x1) (k : Rd W K [f] x2) (hm : Vm.zfy x0 x1 x2 = some r) : Q1 250 [b, d, f] W [] fun W' v => ∃ a, v = a ∧ Ow W' k0 [] [a] r :=
 (c250 (h.view _) (i.view _) (k.view _) hm).ad (fk k0) fun _ _ ⟨a, e, x⟩ => ⟨a, e, x.back (zkb _)⟩
theorem c222 {x0 a b d e r} (i : Rd W0 [0] [vB x0.Clash, a, b, d, e] x0) (hm : Vm.zff x0 = some r) : Q0 222 [.agg [vB x0.Clash, a, b, d, e].toArray] W0 fun Wf v => ∃ f, v = .tuple [f, vB r.2].toArray ∧ OwS Wf LL [] [f] r.1 := by
 unfold Vm.zff at hm
 obtain ⟨y, z, A, B, h, C, D, E, F⟩ := Part.split i
 simp only [List.cons.injEq, and_true, true_and] at h
 obtain ⟨rfl, rfl, rfl, rfl⟩ := h
 refine zaI.of Tryz.func222 rfl rfl rfl rfl (sr (bo 2 rfl fun G H k I => ?_))
 have x := k.o
 refine Gv (.slice none 0 0) rfl (Nb rfl (sr (Gv (.slice none 0 0) rfl (Nb rfl ?_))))
 cases hm
 exact Cw.ret (zmZ rfl rfl (Res.mk x ⟨.slice none 0 0, rfl, (zoh []).sub rfl rfl⟩))
theorem p222 {x0 b d f h k0 r} (i : Rd W K [vB x0.Clash, b, d, f, h] x0) (hm : Vm.zff x0 = some r) : Q1 222 [.agg [vB x0.Clash, b, d, f, h].toArray] W [] fun W' v => ∃ a, v = .tuple [a, vB r.2].toArray ∧ Ow W' k0 [] [a] r.1 :=
 (c222 (i.view _) hm).ad (fk k0) fun _ _ ⟨a, e, k⟩ => ⟨a, e, k.back (zkb _)⟩
theorem c221_222 {x0 C x1 D x2 E r} (h0 : Rd W0 [0] [C] x0) (h1 : Rd W0 [0] [D] x1) (h2 : Rd W0 [0] [E] x2) (hm : Vm.zbi x0 x1 x2 = some r) : Q0 221 [C, D, E, .func (.func 222) #[] [].toArray] W0 fun Wf v => ∃ u0, v = .tuple [u0, vB r.2].toArray ∧ OwS Wf LL [] [u0] r.1 := by
 unfold Vm.zbi at hm
 refine zaI.of Tryz.func221 rfl rfl rfl rfl (sr (Gv (.slice none 0 0) rfl (Nb rfl (ssr (mv C rfl (mv D rfl (mv E rfl (ca hm (fun _ => p249 h0 h1 h2) fun z1 W3 hm l3 => ?_))))))))
 have i := l3.o
 refine Lw.r rfl (R.not rfl) (nl (cn hm (fun hm => ?_) fun hm => ?_))
 ·refine sr (Gv (.slice none 0 0) rfl (Nb rfl ?_))
  cases hm
  exact Cw.ret (zmZ rfl rfl (Res.mk i ⟨.slice none 0 0, rfl, (zoh []).sub rfl rfl⟩))
 ·refine sk (sr (Nv (.slice none 0 0) rfl (ssr (mv C rfl (mv D rfl (mv E rfl (cr hm (fun _ => p250 (k0 := 2) (h0.ul i) (h1.ul i) (h2.ul i)) ?_)))))))
  rintro O a3 b4 hm a5 ⟨_, rfl, aj⟩
  have a6 := i.n a5
  refine Lw.ln O aj.rd rfl (mi rfl (nl (Cw.block ?_)))
  obtain ⟨P, a7, a8, a9⟩ := zlp _ 2
  rw [← a7]
  have ak : Rd (α := List Vm.Part) P [0] [a3] O := by rw [a9]; exact (aj.rd.dye 2).sub (M := [0]) rfl
  have am := a6.t a8
  obtain ⟨ba, bb, hm⟩ := zc1 hm
  refine Cw.loop 26 46 [8, 9, 10, 12, 13, 14, 15, 26] (fun m l w => ∃ k x Q F y b an ao S U z, CW.w z = w ∧ Le [6, 7, 8] P z ∧ l = [y, vB x, b, an, ao, S, U, vI F] ∧ Ow z 5 [] [y] k ∧ Ow z 6 [] [b] Q ∧ Vm.zao O ba m k x Q F = some r) _ ⟨([] : List Str), false, ([] : List Str), 0, .slice none 0 0, .slice none 0 0, undef, undef, undef, undef, P, rfl, Le.refl _ _, rfl, owN 5 [], owN 6 [], hm⟩ ?_
  rintro (_ | b5) _ _ σ ⟨k, x, Q, F, y, b, an, ao, S, U, z, rfl, ap, rfl, bc, V, hm⟩
  ·cases hm
  unfold Vm.zao at hm
  have G := ap.s
  refine sr (Lw.lt rfl (nl (Cw.seq (cn hm (fun hm => ?_) fun hm => ?_))))
  ·refine sk (Cw.seq (Cw.block (sr ?_)))
   obtain ⟨d, aq, hm⟩ := ob hm
   refine Lw.r rfl (R.ix (α := Part) (ak.ul G) aq rfl rfl rfl) ?_
   obtain ⟨x36, c37, _, r38⟩ := ((ak.ul G).at_ aq).cells
   obtain ⟨W, be, bg, bh, rfl, r40, r42, r44, r46⟩ := Part.split r38
   refine Lw.r rfl (R.lda c37 rfl rfl) (al 7 [vB false, .slice none 0 0, .slice none 0 0, .slice none 0 0, .slice none 0 0] fun bi b6 H bj => ?_)
   have f := H.o
   refine sta bj (zab rfl (zab r40.oc (zab r42.oc (zab r44.oc (zab r46.oc za3))))) fun ar I X => ?_
   have h := I.s
   have au := (bc.up H).up I
   refine nl (sr (fl X rfl (Nv W rfl ?_)))
   obtain ⟨bk, bl, hm⟩ := zc1 hm
   refine Cw.join 32 42 [8, 9, 13, 14, 15] (fun l w => ∃ J L Y N A Z aa B, CW.w B = w ∧ Le [8] ar B ∧ l = [N, vB L, A, Z, aa] ∧ Ow B 5 [] [N] J ∧ Rd B [0] [A] Y ∧ bk J L Y = some r) ?_ ?_
   ·rintro _ _ σ ⟨J, L, Y, N, A, Z, aa, B, rfl, av, rfl, bm, r61, hm⟩
    rw [bl] at hm
    refine rg (mv b rfl (mv A rfl ?_))
    obtain ⟨bn, bp, hm⟩ := ob hm
    refine Lw.t rfl (T.appP (α := Str) (((V.up H).up I).up av) r61 rfl rfl bp) ?_
    rintro aw _ ⟨bq, rfl, ax, br⟩
    exact Nv aw rfl (rg (Lw.add rfl (mi rfl (nl ((agm) ⟨J, L, bn, w64 (F + 1), N, aw, ptr (bx bi), A, Z, aa, bq, rfl, ((((ap.j H).j I).j av).j ax).w, rfl, (bm.up ax), br, hm⟩)))))
   ·refine sr (fl X rfl (nl (cn hm (fun hm => ?_) fun hm => ?_)))
    ·refine sr (mv (.func (.func 222) #[] [].toArray) rfl (la X ?_))
     obtain ⟨e, bu, hm⟩ := ob hm
     refine Lw.t rfl (T.callV (vals := [.agg [vB d.Clash, W, be, bg, bh].toArray]) (caps := []) rfl rfl (p222 (k0 := 8) (Part.rd (K := [0]) d.Clash d.Lines d.Old d.One d.Two (r40.ul (f.trans h)) (r42.ul (f.trans h)) (r44.ul (f.trans h)) (r46.ul (f.trans h))) bu)) ?_
     rintro _ _ ⟨b7, rfl, ac, ⟨a, rfl, bv⟩⟩
     have bw := (((am.trans G).trans f).trans h).n ac
     refine mv (.tuple [a, vB e.2].toArray) rfl (Lw.r rfl (R.ext (vs := [a, vB e.2]) (v := a) rfl rfl) (Lw.r rfl (R.ext (vs := [a, vB e.2]) (v := vB e.2) rfl rfl) (Gv a rfl (Nb rfl (ssr (mb rfl (Lw.r rfl (R.not rfl) (nl (cn hm (fun hm => ?_) fun hm => ?_)))))))))
     ·refine sr (Gv (.slice none 0 0) rfl (Nb rfl ?_))
      cases hm
      exact Cw.ret (zmZ rfl rfl (Res.mk bw ⟨.slice none 0 0, rfl, (zoh []).sub rfl rfl⟩))
     ·refine sk (rg (mv a rfl (Nv a rfl ?_)))
      obtain ⟨ay, bz, az, b0⟩ := zlp _ 8
      have b1 : Rd (α := List Str) ay [0] [a] e.1 := by rw [b0]; exact (bv.rd.dye 8).sub (M := [0]) rfl
      exact (ag) ⟨k, x, e.1, y, a, a, vB e.2, ay, bz, (ac.j az).w, rfl, ((au.up ac).up az), b1, hm⟩
    ·exact sk ((ag) ⟨k, x, d.Lines, y, W, S, U, ar, rfl, Le.refl _ _, rfl, au, (r40.ul (f.trans h)), hm⟩)
  ·refine Cw.exit ?_
   rw [bb] at hm
   refine ssr (mv b rfl (ca hm (fun _ => p141 (K := [6]) V.rd) fun b8 b9 hm a0 => ?_))
   have a1 := (am.trans G).n a0
   refine Lw.r rfl (R.not rfl) (nl (cn hm (fun hm => ?_) fun hm => ?_))
   ·refine sr (Gv (.slice none 0 0) rfl (Nb rfl ?_))
    cases hm
    exact Cw.ret (zmZ rfl rfl (Res.mk a1 ⟨.slice none 0 0, rfl, (zoh []).sub rfl rfl⟩))
   ·refine sk (sr (mv b rfl (Gv b rfl (Nb rfl ?_))))
    cases hm
    exact Cw.ret (zmZ rfl rfl (Res.mk a1 ⟨b, rfl, (V.up a0).s.sub rfl rfl⟩))
theorem p221_222 {x0 b x1 d x2 f k0 r} (h : Rd W K [b] x0) (i : Rd W K [d] x1) (k : Rd W K [f] x2) (hm : Vm.zbi x0 x1 x2 = some r) : Q1 221 [b, d, f, .func (.func 222) #[] [].toArray] W [] fun W' v => ∃ a, v = .tuple [a, vB r.2].toArray ∧ Ow W' k0 [] [a] r.1 :=
 (c221_222 (h.view _) (i.view _) (k.view _) hm).ad (fk k0) fun _ _ ⟨a, e, x⟩ => ⟨a, e, x.back (zkb _)⟩
theorem c189 {x0 b x1 d x2 e r} (i : Rd W0 [0] [b] x0) (k : Rd W0 [0] [d] x1) (x : Rd W0 [0] [e] x2) (hm : Vm.zek x0 x1 x2 = some r) : Q0 189 [b, d, e] W0 fun Wf v => ∃ h, v = .tuple [h, vB r.2].toArray ∧ OwS Wf LL [] [h] r.1 := by
 unfold Vm.zek at hm
 refine zaI.of Tryz.func189 rfl rfl rfl rfl (sr (Gv (.slice none 0 0) rfl (Nb rfl (sr (mv b rfl (mv d rfl (mv e rfl (cr hm (fun _ => p221_222 (k0 := 2) i k x) ?_))))))))
 rintro f _ B hm y ⟨a, rfl, z⟩
 have A := y.o
 refine Lw.r rfl (R.ext (vs := [a, vB f.2]) (v := a) rfl rfl) (Lw.r rfl (R.ext (vs := [a, vB f.2]) (v := vB f.2) rfl rfl) (Gv a rfl (Nb rfl ?_)))
 cases hm
 exact Cw.ret (zmZ rfl rfl (Res.mk A ⟨a, rfl, z.s.sub rfl rfl⟩))
theorem p189 {x0 b x1 d x2 f k0 r} (h : Rd W K [b] x0) (i : Rd W K [d] x1) (k : Rd W K [f] x2) (hm : Vm.zek x0 x1 x2 = some r) : Q1 189 [b, d, f] W [] fun W' v => ∃ a, v = .tuple [a, vB r.2].toArray ∧ Ow W' k0 [] [a] r.1 :=
 (c189 (h.view _) (i.view _) (k.view _) hm).ad (fk k0) fun _ _ ⟨a, e, x⟩ => ⟨a, e, x.back (zkb _)⟩
theorem c162 {x0 h x1 I x2 J r} (h0 : Rd W0 [0] [h, vB x0.file] x0) (h1 : Rd W0 [0] [I, vB x1.file] x1) (h2 : Rd W0 [0] [J, vB x2.file] x2) (hm : Vm.zgx x0 x1 x2 = some r) : Q0 162 [.agg [h, vB x0.file].toArray, .agg [I, vB x1.file].toArray, .agg [J, vB x2.file].toArray] W0 fun Wf v => ∃ X, v = .tuple [.agg [X, vB r.1.file].toArray, vI r.2].toArray ∧ Rd Wf [0] [X] r.1.text := by
 unfold Vm.zgx at hm
 obtain ⟨b7, Y, b⟩ := has.split h0
 simp only [List.cons.injEq, and_true, true_and] at Y
 obtain rfl := Y
 obtain ⟨b8, Z, i⟩ := has.split h1
 simp only [List.cons.injEq, and_true, true_and] at Z
 obtain rfl := Z
 obtain ⟨b9, aa, k⟩ := has.split h2
 simp only [List.cons.injEq, and_true, true_and] at aa
 obtain rfl := aa
 refine zaI.of Tryz.func162 rfl rfl rfl rfl (sr (bo 2 rfl fun g1 W1 l1 b1 => ?_))
 have a2 := l1.o
 refine bo 3 rfl fun g3 W3 l3 b3 => ?_
 have a4 := a2.n l3
 refine bo 4 rfl fun g6 W6 L b6 => ?_
 have a7 := a4.n L
 refine al 5 [.slice none 0 0, vB false] fun ch a6 l10 af => ?_
 have D := a7.n l10
 have N := ((b1.up l3).up L).up l10
 have O := (b3.up L).up l10
 refine Ni rfl (Cw.seq (Cw.block ?_))
 obtain ⟨a8, a9, hm⟩ := zc1 hm
 refine Cw.join 10 18 [10] (fun l w => ∃ P Q, CW.w Q = w ∧ Le [] a6 Q ∧ l = [vB P] ∧ a8 P = some r) ?_ ?_
 ·rintro _ _ σ ⟨P, Q, rfl, d, rfl, hm⟩
  rw [a9] at hm
  have E := D.n d
  have F := (b6.up l10).up d
  refine cn hm (fun hm => ?_) fun hm => ?_
  ·refine sr (la F (sta (af.up d) (zab k.oc (zab rfl za3)) fun ci ba bb => ?_))
   have ah := E.t ba
   refine Ni rfl ?_
   cases hm
   exact Cw.ret (zhr rfl bb rfl (Res.mk ah ⟨J, rfl, (k.ul ah)⟩))
  ·refine sr (la F (la (N.up d) (ca hm (fun _ => p188 (has.rd (K := [0]) x2.text x2.file (k.ul E)) (has.rd (K := [0]) x0.text x0.file (b.ul E))) fun cj S hm e => ?_)))
   have ai := E.n e
   have T := (O.up d).up e
   have aj := (af.up d).up e
   refine Nb rfl (cn hm (fun hm => ?_) fun hm => ?_)
   ·refine sr (la T (sta aj (zab i.oc (zab rfl za3)) fun ck bc be => ?_))
    have ak := ai.t bc
    refine Ni rfl ?_
    cases hm
    exact Cw.ret (zhr rfl be rfl (Res.mk ak ⟨I, rfl, (i.ul ak)⟩))
   ·obtain ⟨bg, bh, hm⟩ := zc1 hm
    refine Cw.join 25 33 [25] (fun l w => ∃ U V, CW.w V = w ∧ Le [] S V ∧ l = [vB U] ∧ bg U = some r) ?_ ?_
    ·rintro _ _ σ ⟨U, V, rfl, x, rfl, hm⟩
     rw [bh] at hm
     have f := ai.n x
     have y := ((N.up d).up e).up x
     have G := aj.up x
     refine cn hm (fun hm => ?_) fun hm => ?_
     ·refine sr (la y (sta G (zab b.oc (zab rfl za3)) fun cl bi bj => ?_))
      have am := f.t bi
      refine Ni rfl ?_
      cases hm
      exact Cw.ret (zhr rfl bj rfl (Res.mk am ⟨h, rfl, (b.ul am)⟩))
     ·refine sr (fl y rfl (Lw.r rfl (R.not rfl) (Nb rfl (cn hm (fun hm => ?_) fun hm => ?_))))
      ·refine sr (la y (sta G (zab b.oc (zab rfl za3)) fun cm bk bl => ?_))
       have an := f.t bk
       refine Ni rfl ?_
       cases hm
       exact Cw.ret (zhr rfl bl rfl (Res.mk an ⟨h, rfl, (b.ul an)⟩))
      ·refine sk (sr (fl y rfl (fl (T.up x) rfl (fl ((F.up e).up x) rfl (cr hm (fun _ => p189 (k0 := 6) (b.ul f) (i.ul f) (k.ul f)) ?_)))))
       rintro z _ co hm H ⟨a, rfl, W⟩
       have ao := f.n H
       refine mv (.tuple [a, vB z.2].toArray) rfl (Lw.r rfl (R.ext (vs := [a, vB z.2]) (v := a) rfl rfl) (Lw.r rfl (R.ext (vs := [a, vB z.2]) (v := vB z.2) rfl rfl) (Gv a rfl (Nb rfl (ssr (mb rfl (Lw.r rfl (R.not rfl) (nl (cn hm (fun hm => ?_) fun hm => ?_)))))))))
       ·refine sr (la (y.up H) (sta (G.up H) (zab b.oc (zab rfl za3)) fun cp bm bn => ?_))
        have ap := ao.t bm
        refine Ni rfl ?_
        cases hm
        exact Cw.ret (zhr rfl bn rfl (Res.mk ap ⟨h, rfl, (b.ul ap)⟩))
       ·refine sk (sr (mv a rfl (Lw.r rfl (R.bd (zs := [.slice none 0 0, vB false]) (cs := [a, vB true]) [(0, a), (1, vB true)] rfl rfl rfl (zbo W.oc rfl (zbo rfl rfl zfH))) (sta (G.up H) (zab W.oc (zab rfl za3)) fun cq aq bp => ?_))))
        have bq := ao.t aq
        refine Ni rfl ?_
        obtain ⟨br, bu, ar, bv⟩ := zlp _ 6
        have bw : Rd (α := List Str) br [0] [a] z.1 := by rw [bv]; exact ((W.up aq).rd.dye 6).sub (M := [0]) rfl
        have bz := bq.t ar
        cases hm
        rw [← bu]
        exact Cw.ret (zhr rfl (bp.up ar) rfl (Res.mk bz ⟨a, rfl, bw⟩))
    ·refine rg (fl T rfl (Lw.r rfl (R.not rfl) (mb rfl (bs hm (fun A hm => ?_) fun A hm => ?_))))
     ·exact psk 3 A rfl (Pb A rfl (Nb rfl ((ag) ⟨true, S, rfl, Le.refl _ _, rfl, hm⟩)))
     ·exact wak 3 A (fl (F.up e) rfl (Lw.r rfl (R.not rfl) (Pb A rfl (Nb rfl ((ag) ⟨(!x2.file), S, rfl, Le.refl _ _, rfl, hm⟩)))))
 ·refine rg (la O (la N (ca hm (fun _ => p188 (has.rd (K := [0]) x1.text x1.file (i.ul D)) (has.rd (K := [0]) x0.text x0.file (b.ul D))) fun ct b0 hm B => ?_)))
  have au := D.n B
  refine mb rfl (bs hm (fun C hm => ?_) fun C hm => ?_)
  ·exact psk 3 C rfl (Pb C rfl (Nb rfl ((ag) ⟨true, b0, rfl, B, rfl, hm⟩)))
  ·exact wak 3 C (la (O.up B) (la ((b6.up l10).up B) (ca hm (fun _ => p188 (has.rd (K := [0]) x1.text x1.file (i.ul au)) (has.rd (K := [0]) x2.text x2.file (k.ul au))) fun b2 b4 hm b5 => Pb C rfl (Nb rfl ((ag) ⟨b2, b4, rfl, (B.j b5).w, rfl, hm⟩)))))
theorem p162 {x0 b x1 d x2 f r} (h : Rd W K [b, vB x0.file] x0) (i : Rd W K [d, vB x1.file] x1) (k : Rd W K [f, vB x2.file] x2) (hm : Vm.zgx x0 x1 x2 = some r) : Q1 162 [.agg [b, vB x0.file].toArray, .agg [d, vB x1.file].toArray, .agg [f, vB x2.file].toArray] W [] fun W' v => ∃ a, v = .tuple [.agg [a, vB r.1.file].toArray, vI r.2].toArray ∧ Rd W' (0 :: K) [a] r.1.text :=
 (c162 (h.view _) (i.view _) (k.view _) hm).ad (fk 0) fun _ _ ⟨a, e, x⟩ => ⟨a, e, x.back rfl⟩
theorem c88 {x0 k r} (x : Rd W0 [0] [k] x0) (hm : Vm.zbm x0 = some r) : Q0 88 [k] W0 fun Wf v => ∃ C, v = C ∧ OwS Wf LL [] [C] r := by
 unfold Vm.zbm at hm
 refine zaI.of Tryz.func88 rfl rfl rfl rfl (sr (Nv (.slice none 0 0) rfl (sr (Nv (.slice none 0 0) rfl (ssr (mv k rfl (Lw.ln x0 x rfl (mi rfl (nl (Cw.block ?_))))))))))
 obtain ⟨N, O, hm⟩ := zc1 hm
 refine Cw.loop 8 21 [3, 5, 8] (fun m l w => ∃ y e a D f, CW.w f = w ∧ Le [2, 3, 4] W0 f ∧ l = [a, D, vI e] ∧ Ow f 2 [] [a] y ∧ Vm.zbF x0 N m y e = some r) _ ⟨([] : List File), 0, .slice none 0 0, undef, W0, rfl, Le.refl _ _, rfl, owN 2 [], hm⟩ ?_
 rintro (_ | m8) _ _ σ ⟨y, e, a, D, f, rfl, E, rfl, F, hm⟩
 ·cases hm
 unfold Vm.zbF at hm
 have z := E.s
 refine sr (Lw.lt rfl (nl (Cw.seq (cn hm (fun hm => ?_) fun hm => ?_))))
 ·refine sk (Cw.seq (Cw.block (sr ?_)))
  obtain ⟨b, G, hm⟩ := ob hm
  refine Lw.r rfl (R.ix (α := File) (x.ul z) G rfl rfl rfl) ?_
  obtain ⟨x14, c15, _, r16⟩ := ((x.ul z).at_ G).cells
  obtain ⟨ai, rfl, r18⟩ := File.split r16
  refine Lw.r rfl (R.lda c15 rfl rfl) (al 3 [vS ([] : Str), .slice none 0 0] fun P aj A Q => ?_)
  have S := A.o
  refine sta Q (zab rfl (zab r18.oc za3)) fun ak B H => ?_
  have U := S.t B
  refine nl (Cw.draw [2, 4] [(0, 0), (1, 0), (2, 1), (3, 0), (4, 1), (5, 2), (6, 0), (7, 2), (8, 2), (9, 0)] mixed (by kernel_rfl) fun am d => ?_)
  have V := U.n d
  refine Dv a rfl (Dfl (H.up d) rfl rfl rfl (Dfl (H.up d) rfl rfl rfl (Dc hm (Le.refl _ _) (fun _ => p144 (k0 := 4) (r18.ul V)) rfl ?_)))
  rintro W h an hm I ⟨_, rfl, K⟩ X
  refine Mw.p rfl rfl (fun _ => R.bd (zs := [vS ([] : Str), .slice none 0 0]) (cs := [vS b.Path, h]) [(0, vS b.Path), (1, h)] rfl rfl rfl (zbo rfl rfl (zbo K.oc rfl zfH))) (Mw.t rfl rfl (T.bs 5 [.agg [vS b.Path, h].toArray] (cs := [vS b.Path, h]) rfl rfl (bsA rfl)) ?_)
  rintro _ _ ⟨ao, ap, rfl, rfl, i, Y⟩
  refine mc X i fun Z => ?_
  obtain ⟨aa, ac, hm⟩ := ob hm
  refine Mw.t rfl rfl (T.app1 (α := File) (J := [4]) (K' := []) (((((F.up A).up B).up d).up I).up i) Y (File.own b.Path W (K.up i).s) rfl rfl ac) ?_
  rintro L _ ⟨ae, rfl, M, af⟩
  exact mc Z M fun aq => Hv L rfl (Mw.nil (rg (Lw.add rfl (mi rfl (nl ((agm) ⟨aa, w64 (e + 1), L, ptr (bx P), ae, rfl, ((((((E.j A).j B).j d).j I).j i).j M).w, rfl, af, hm⟩))))))
 ·refine Cw.exit ?_
  rw [O] at hm
  refine sr (mv a rfl (Nv a rfl ?_))
  cases hm
  exact Cw.ret (zlh rfl (Res.mk z ⟨a, rfl, F.s.sub rfl rfl⟩))
theorem p88 {x0 b k0 r} (d : Rd W K [b] x0) (hm : Vm.zbm x0 = some r) : Q1 88 [b] W [] fun W' v => ∃ a, v = a ∧ Ow W' k0 [] [a] r :=
 (c88 (d.view _) hm).ad (fk k0) fun _ _ ⟨a, e, f⟩ => ⟨a, e, f.back (zkb _)⟩
end Go.Sx
