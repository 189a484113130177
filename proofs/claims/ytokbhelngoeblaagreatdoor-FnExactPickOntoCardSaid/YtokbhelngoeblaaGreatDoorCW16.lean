/- Walks: each function answers as its model, printed by a program of ours. Conditions: the arguments read as they are given. -/
import Derived.Test.YtokbhelngoeblaaGreatDoorCTs
import Derived.Test.YtokbhelngoeblaaGreatDoorCM8
import Derived.Test.YtokbhelngoeblaaGreatDoorCW0
import Derived.Test.YtokbhelngoeblaaGreatDoorCW1
import Derived.Test.YtokbhelngoeblaaGreatDoorCW13
import Derived.Test.YtokbhelngoeblaaGreatDoorCW2
import Derived.Test.YtokbhelngoeblaaGreatDoorCW5
namespace Go.Sx
open Go Go.Proofs Go.Vm Rp
set_option linter.unusedVariables false
set_option linter.unusedSimpArgs false
variable {W W0 : CW} {K : List Nat}
theorem c59 {x0 S U x1 x2 r} (h0 : Rd W0 [0] [S, U] x0) (hm : Vm.zlp x0 x1 x2 = some r) : Q0 59 [.agg [S, U].toArray, vI x1, vI x2] W0 fun Wf v => ∃ V, v = V ∧ OwS Wf LL [] [V] r := by
 unfold Vm.zlp at hm
 obtain ⟨bq, br, W, e, J⟩ := Repo.split h0
 simp only [List.cons.injEq, and_true, true_and] at W
 obtain ⟨rfl, rfl⟩ := W
 refine zau.of Tryz.func59 rfl rfl rfl rfl (sr (bo 2 rfl fun g1 W1 l1 b1 => ?_))
 have a2 := l1.o
 refine Nv (.slice none 0 0) rfl (sr (Lw.t rfl (T.lit0 (α := Int) 3 []) ?_))
 rintro X _ ⟨W3, rfl, Y, o3⟩
 have z := a2.n Y
 have f := b1.up Y
 refine Nv X rfl (Cw.seq ?_)
 obtain ⟨K8, av, hm⟩ := zbk hm
 refine Cw.join 12 32 [32] (fun l w => ∃ L M, CW.w M = w ∧ Le [] W3 M ∧ l = [vB L] ∧ K8 L = some r) ?_ ?_
 ·rintro _ _ σ ⟨L, M, rfl, A, rfl, hm⟩
  rw [av] at hm
  have B := z.n A
  refine cn hm (fun hm => ?_) fun hm => ?_
  ·refine sr (Nv (.slice none 0 0) rfl ?_)
   cases hm
   exact Cw.ret (zjQ rfl (Res.mk B ⟨.slice none 0 0, rfl, (zqe []).sub rfl rfl⟩))
  ·refine sk (sr (la (f.up A) (mi rfl (cr hm (fun _ => p121 (k0 := 4) (Repo.rd (K := [0]) x0.Commits x0.Heads (e.ul B) (J.ul B))) ?_))))
   rintro aw Z bw hm N ⟨_, rfl, ax⟩
   have O := B.n N
   refine Nv Z rfl (sr (la ((f.up A).up N) (mi rfl (cr hm (fun _ => p121 (k0 := 5) (Repo.rd (K := [0]) x0.Commits x0.Heads (e.ul O) (J.ul O))) ?_))))
   rintro aa C ac hm P ⟨_, rfl, ay⟩
   have az := O.n P
   refine Nv C rfl (ssr (Ni rfl (Cw.block ?_)))
   obtain ⟨a0, a1, hm⟩ := zbk hm
   refine Cw.loop 39 58 [7, 10] (fun m l w => ∃ D E a h, CW.w h = w ∧ Le [3] ac h ∧ l = [a, vI E] ∧ Ow h 3 [] [a] D ∧ Vm.zf0 aw aa a0 m D E = some r) _ ⟨([] : List Int), 0, X, ac, rfl, Le.refl _ _, rfl, (((o3.up A).up N).up P), hm⟩ ?_
   rintro (_ | bz) _ _ σ ⟨D, E, a, h, rfl, F, rfl, Q, hm⟩
   ·cases hm
   unfold Vm.zf0 at hm
   have a3 := az.t F
   have i := ay.up F
   refine ssr (mi rfl (mv C rfl (Lw.ln aa i.rd rfl (Lw.lt rfl (nl (cn hm (fun hm => ?_) fun hm => ?_))))))
   ·refine sk ?_
    obtain ⟨a5, a6, hm⟩ := zbk hm
    refine Cw.join 45 58 [7] (fun l w => ∃ G H k, CW.w k = w ∧ Le [3] h k ∧ l = [H] ∧ Ow k 3 [] [H] G ∧ a5 G = some r) ?_ ?_
    ·rintro _ _ σ ⟨G, H, k, rfl, a7, rfl, a8, hm⟩
     rw [a6] at hm
     exact rg (mi rfl (Lw.add rfl (Ni rfl ((agm) ⟨G, w64 (E + 1), H, k, rfl, (F.j a7).w, rfl, a8, hm⟩))))
    ·refine Cw.block (sr (mv Z rfl (mv C rfl (mi rfl ?_))))
     obtain ⟨b0, ae, hm⟩ := ob hm
     refine Lw.r rfl (R.ix (α := Int) i.rd ae rfl rfl rfl) (Lw.r rfl (R.ld rfl rfl (i.rd.at_ ae).int) (ca hm (fun _ => p122 (K := [4]) ((ax.up P).up F).rd) fun b2 ba hm b => Lw.r rfl (R.not rfl) (nl (cn hm (fun hm => ?_) fun hm => ?_))))
     ·refine rg (mv a rfl (mv C rfl (mi rfl ?_)))
      obtain ⟨af, ah, hm⟩ := ob hm
      refine Lw.r rfl (R.ix (α := Int) (i.up b).rd ah rfl rfl rfl) (Lw.r rfl (R.ld rfl rfl ((i.up b).rd.at_ ah).int) (Lw.t rfl (T.bs 6 [vI af] (cs := [vI af]) rfl rfl (bsv rfl)) ?_))
      rintro _ _ ⟨b3, b4, rfl, rfl, ai, bb⟩
      obtain ⟨bc, be, hm⟩ := ob hm
      refine Lw.t rfl (T.app1S (α := Int) (K' := []) ((Q.up b).up ai) bb (rdI _) rfl rfl be) ?_
      rintro aj _ ⟨bg, rfl, bh, bi⟩
      exact Nv aj rfl ((ag) ⟨bc, aj, bg, rfl, ((b.j ai).j bh).w, rfl, bi, hm⟩)
     ·exact sk ((ag) ⟨D, a, ba, rfl, b.w, rfl, (Q.up b), hm⟩)
   ·refine Cw.exit ?_
    rw [a1] at hm
    refine sr (mv a rfl (Nv a rfl ?_))
    cases hm
    exact Cw.ret (zjQ rfl (Res.mk a3 ⟨a, rfl, Q.s.sub rfl rfl⟩))
 ·refine rg (la f (ca hm (fun _ => p55 (Repo.rd (K := [0]) x0.Commits x0.Heads (e.ul z) (J.ul z))) fun b6 bj hm d => ?_))
  have ak := z.n d
  refine Lw.r rfl (R.not rfl) (mb rfl (bs hm (fun x hm => ?_) fun x hm => ?_))
  ·exact psk 7 x rfl (Pb x rfl (mb rfl (psk 7 rfl rfl (Pb rfl rfl (nl ((ag) ⟨true, bj, rfl, d, rfl, hm⟩))))))
  ·refine wak 7 x (mi rfl (fl (f.up d) rfl (Lw.ln x0.Commits (e.ul ak) rfl (Lw.sub rfl (ca hm (fun _ => p57) fun b7 bk hm I => ?_)))))
   have bl := ak.n I
   refine Lw.r rfl (R.not rfl) (Pb x rfl (mb rfl (bs hm (fun y hm => ?_) fun y hm => ?_)))
   ·exact psk 7 y rfl (Pb y rfl (nl ((ag) ⟨true, bk, rfl, (d.j I).w, rfl, hm⟩)))
   ·exact wak 7 y (mi rfl (fl ((f.up d).up I) rfl (Lw.ln x0.Commits (e.ul bl) rfl (Lw.sub rfl (ca hm (fun _ => p57) fun bm bn hm bp => Lw.r rfl (R.not rfl) (Pb y rfl (nl ((ag) ⟨(!bm), bn, rfl, ((d.j I).j bp).w, rfl, hm⟩))))))))
theorem p59 {x0 b d x1 x2 k0 r} (f : Rd W K [b, d] x0) (hm : Vm.zlp x0 x1 x2 = some r) : Q1 59 [.agg [b, d].toArray, vI x1, vI x2] W [] fun W' v => ∃ a, v = a ∧ Ow W' k0 [] [a] r :=
 (c59 (f.view _) hm).ad (fk k0) fun _ _ ⟨a, e, h⟩ => ⟨a, e, h.back (ziE _)⟩
theorem c12 {x0 az a0 x1 x2 r} (h0 : Rd W0 [0] [az, a0] x0) (hm : Vm.zjk x0 x1 x2 = some r) : Q0 12 [.agg [az, a0].toArray, vS x1, vI x2] W0 fun Wf v => ∃ dq dr, v = .tuple [.agg [dq, dr].toArray, vI r.2].toArray ∧ Rd Wf [0] [dq] r.1.Commits ∧ Rd Wf [0] [dr] r.1.Heads := by
 unfold Vm.zjk at hm
 obtain ⟨j1, j2, ds, D, Y⟩ := Repo.split h0
 simp only [List.cons.injEq, and_true, true_and] at ds
 obtain ⟨rfl, rfl⟩ := ds
 refine zau.of Tryz.func12 rfl rfl rfl rfl (sr (bo 2 rfl fun g1 W1 l1 b1 => ?_))
 have a2 := l1.o
 refine al 3 [.slice none 0 0, .slice none 0 0] fun g3 W3 l3 b3 => ?_
 have a4 := a2.n l3
 refine Ni rfl (ssr (la (b1.up l3) (ca hm (fun _ => p55 (Repo.rd (K := [0]) x0.Commits x0.Heads (D.ul a4) (Y.ul a4))) fun z8 fd hm l10 => ?_)))
 have ah := a4.n l10
 have a1 := (b1.up l3).up l10
 refine Lw.r rfl (R.not rfl) (nl (cn hm (fun hm => ?_) fun hm => ?_))
 ·refine sr (Lw.r rfl (R.bd (zs := [.slice none 0 0, .slice none 0 0]) (cs := [.slice none 0 0, .slice none 0 0]) [] rfl rfl rfl zdL) (sta (b3.up l10) (zaa rfl (zaa rfl zaF)) fun j7 fe ff => ?_))
  have fg := ah.t fe
  refine Ni rfl ?_
  cases hm
  exact Cw.ret (zfa rfl ff rfl (Res.mk fg ⟨.slice none 0 0, .slice none 0 0, rfl, (rdN (K := [0])), (rdN (K := [0]))⟩))
 ·refine sk (Cw.seq ?_)
  obtain ⟨fh, fi, hm⟩ := zbk hm
  refine Cw.join 18 30 [30] (fun l w => ∃ br bu, CW.w bu = w ∧ Le [] fd bu ∧ l = [vB br] ∧ fh br = some r) ?_ ?_
  ·rintro _ _ σ ⟨br, bu, rfl, a3, rfl, hm⟩
   rw [fi] at hm
   have a5 := ah.n a3
   have dw := (b3.up l10).up a3
   refine cn hm (fun hm => ?_) fun hm => ?_
   ·refine sr (la (a1.up a3) (cr hm (fun _ => p58 (k0 := 4) (k1 := 5) (Repo.rd (K := [0]) x0.Commits x0.Heads (D.ul a5) (Y.ul a5))) ?_))
    rintro dx _ j8 hm dy ⟨dz, d0, rfl, d1, d2⟩
    have fj := a5.n dy
    refine sta (dw.up dy) (zaa d1.oc (zaa d2.oc zaF)) fun j9 bv fm => ?_
    have fn := fj.t bv
    refine Ni rfl ?_
    obtain ⟨fo, fp, bw, fq⟩ := zl7 _ 4
    have fr : Rd (α := List Vm.Commit) fo [0] [dz] dx.Commits := by rw [fq]; exact ((d1.up bv).rd.dye 4).sub (M := [0]) rfl
    have fs := fn.t bw
    obtain ⟨ft, fu, d3, fv⟩ := zl7 _ 5
    have fw : Rd (α := List Vm.Head) ft [0] [d0] dx.Heads := by rw [fv]; exact (((d2.up bv).up bw).rd.dye 5).sub (M := [0]) rfl
    have d4 := d3.s
    cases hm
    rw [← fu.trans (fp)]
    exact Cw.ret (zfa rfl ((fm.up bw).up d3) rfl (Res.mk (fs.trans d4) ⟨dz, d0, rfl, (fr.ul d4), fw⟩))
   ·refine sk (Cw.seq (Cw.draw [] [(0, 1), (1, 0), (2, 1), (3, 0), (4, 2), (5, 3), (6, 0)] mixed (by kernel_rfl) fun ka bz => ?_))
    have b0 := a5.n bz
    have b2 := (a1.up a3).up bz
    refine Mw.q rfl rfl (fun _ c => R.lda (cs := [az, a0]) (b2.clcs rfl c) rfl rfl) (Di rfl (Mw.q rfl rfl (fun _ c => R.lda (cs := [az, a0]) (b2.clcs rfl c) rfl rfl) (Ds rfl ?_)))
    obtain ⟨kb, fx, hm⟩ := ob hm
    refine Mw.t rfl rfl (T.call rfl (p56  (Repo.rd (K := [0]) x0.Commits x0.Heads (D.ul b0) (Y.ul b0)) fx)) ?_
    rintro _ _ ⟨kc, rfl, a6, rfl⟩
    have b4 := b0.n a6
    refine m0 a6 fun kd => ?_
    obtain ⟨d5, fy, hm⟩ := ob hm
    refine Mw.l rfl rfl (T.call rfl (p59 (k0 := 6) (Repo.rd (K := [0]) x0.Commits x0.Heads (D.ul b4) (Y.ul b4)) fy)) ?_
    rintro i _ ⟨ke, rfl, b5, ⟨_, rfl, fz⟩⟩
    have b6 := b4.n b5
    have d6 := (b2.up a6).up b5
    refine Hv i rfl (Mw.nil (sr (la d6 (cr hm (fun _ => p58 (k0 := 7) (k1 := 8) (Repo.rd (K := [0]) x0.Commits x0.Heads (D.ul b6) (Y.ul b6))) ?_))))
    rintro Z _ kf hm a7 ⟨f0, f1, rfl, d7, d8⟩
    have f2 := b6.n a7
    refine ms rfl (mi rfl (cr hm (fun _ => p60 (K := [7, 8]) (x0 := (Vm.Repo.mk Z.Commits Z.Heads)) (Repo.rd (K := [7, 8]) Z.Commits Z.Heads (d7.rd.sub (M := [7, 8]) rfl) (d8.rd.sub (M := [7, 8]) rfl))) ?_))
    rintro aa _ kg hm ac ⟨b7, b8, rfl, f3, f4⟩
    have d9 := f3.sub (M := [0, 7, 8]) rfl
    have ea := f4.sub (M := [0, 7, 8]) rfl
    have f5 := f2.n ac
    refine al 9 [.slice none 0 0, .slice none 0 0] fun J kh L f6 => ?_
    have f7 := f5.n L
    refine sta f6 (zaa d9.oc (zaa ea.oc zaF)) fun ki N f8 => ?_
    have f9 := f7.t N
    refine nl (ssr (Ni rfl (Cw.block ?_)))
    have ga := d9.up ((L.sub (M := [9]) rfl).trans (N.sub (M := [9]) rfl)) rfl
    have gb := ea.up ((L.sub (M := [9]) rfl).trans (N.sub (M := [9]) rfl)) rfl
    obtain ⟨b9, gc, ae, cb⟩ := zl7 _ 7
    rw [← gc]
    have gd : Rd b9 [0, 8] [b7] aa.Commits := by rw [cb]; exact (ga.dye 7).sub (M := [0, 8]) rfl
    have gf : Rd b9 [0, 8] [b8] aa.Heads := by rw [cb]; exact (gb.dye 7).sub (M := [0, 8]) rfl
    have kj : Rd (α := List Vm.Commit) b9 [0] [f0] Z.Commits := by rw [cb]; exact ((((d7.up ac).up L).up N).rd.dye 7).sub (M := [0]) rfl
    have gg := f9.t ae
    obtain ⟨ai, gh, aj, cc⟩ := zl7 _ 8
    rw [← gh]
    have gj : Rd ai [0] [b7] aa.Commits := by rw [cc]; exact (gd.dye 8).sub (M := [0]) rfl
    have gk : Rd ai [0] [b8] aa.Heads := by rw [cc]; exact (gf.dye 8).sub (M := [0]) rfl
    have kk : Rd (α := List Vm.Head) ai [0] [f1] Z.Heads := by rw [cc]; exact (((((d8.up ac).up L).up N).up ae).rd.dye 8).sub (M := [0]) rfl
    have gm := gg.t aj
    obtain ⟨gn, go, hm⟩ := zbk hm
    refine Cw.loop 44 90 [7, 10, 11, 12, 13] (fun m l w => ∃ ak f am an O P eb cd ce ao ap b k A, CW.w A = w ∧ Le [9, 16, 17] ai A ∧ l = [vI ak, vI f, eb, cd, ce] ∧ Ow A 14 [] [ao] am ∧ Ow A 15 [] [ap] an ∧ Bx A 3 g3 [ao, ap] ∧ Rd A [0] [b] O ∧ Rd A [0] [k] P ∧ Bx A 9 J [b, k] ∧ Vm.ze3 x0 x1 d5 gn m ak f am an O P = some r) _ ⟨0, 0, ([] : List Commit), ([] : List Head), aa.Commits, aa.Heads, undef, undef, undef, .slice none 0 0, .slice none 0 0, b7, b8, ai, rfl, Le.refl _ _, rfl, owN 14 [], owN 15 [], (((((((((dw.up bz).up a6).up b5).up a7).up ac).up L).up N).up ae).up aj), gj, gk, ((f8.up ae).up aj), hm⟩ ?_
    rintro (_ | kl) _ _ σ ⟨ak, f, am, an, O, P, eb, cd, ce, ao, ap, b, k, A, rfl, a8, rfl, gr, gs, ec, r139, r142, ed, hm⟩
    ·cases hm
    unfold Vm.ze3 at hm
    have cf := gm.t a8
    have ee := ((((((fz.up a7).up ac).up L).up N).up ae).up aj).up a8
    refine ssr (mi rfl (mv i rfl (Lw.ln d5 ee.rd rfl (Lw.lt rfl (nl (cn hm (fun hm => ?_) fun hm => ?_))))))
    ·refine sk ?_
     obtain ⟨gu, gv, hm⟩ := zbk hm
     refine Cw.join 50 90 [7, 11, 12, 13] (fun l w => ∃ a9 ba bb bc be cg ch ci bg bh bi bj B, CW.w B = w ∧ Le [9, 16, 17] A B ∧ l = [vI a9, cg, ch, ci] ∧ Ow B 14 [] [bg] ba ∧ Ow B 15 [] [bh] bb ∧ Bx B 3 g3 [bg, bh] ∧ Rd B [0] [bi] bc ∧ Rd B [0] [bj] be ∧ Bx B 9 J [bi, bj] ∧ gu a9 ba bb bc be = some r) ?_ ?_
     ·rintro _ _ σ ⟨a9, ba, bb, bc, be, cg, ch, ci, bg, bh, bi, bj, B, rfl, gw, rfl, gx, gy, gz, r164, r167, g0, hm⟩
      rw [gv] at hm
      exact rg (mi rfl (Lw.add rfl (Ni rfl ((agm) ⟨a9, w64 (f + 1), ba, bb, bc, be, cg, ch, ci, bg, bh, bi, bj, B, rfl, (a8.j gw).w, rfl, gx, gy, gz, r164, r167, g0, hm⟩))))
     ·refine Cw.block (Cw.seq (Cw.draw [] [(0, 0), (1, 1), (2, 0), (3, 0), (4, 0), (5, 1), (6, 0), (7, 1), (8, 2), (9, 3)] mixed (by kernel_rfl) fun km E => ?_))
      have Q := E.o
      have bk := ee.up E
      have ef := (((((((d6.up a7).up ac).up L).up N).up ae).up aj).up a8).up E
      refine Dfl ef rfl rfl rfl (Dv i rfl (Di rfl ?_))
      obtain ⟨kn, cj, hm⟩ := ob hm
      refine Mw.p rfl rfl (fun _ => R.ix (α := Int) bk.rd cj rfl rfl rfl) (Mw.q rfl rfl (fun _ c => R.ld rfl rfl (zaz (bk.rd.at_ cj).1 rfl (bk.rd.at_ cj).int c)) ?_)
      obtain ⟨F, ck, hm⟩ := ob hm
      have cl := D.ul (cf.trans Q)
      refine Mw.p rfl rfl (fun _ => R.ix (α := Commit) cl ck rfl rfl rfl) ?_
      obtain ⟨x187, c188, _, r189⟩ := (cl.at_ ck).cells
      obtain ⟨g2, g4, rfl, r191, r193⟩ := Commit.split r189
      refine Mw.q rfl rfl (fun _ c => R.lda (zlO (cl.at_ ck).1 rfl c188 c) rfl rfl) (Mw.t rfl rfl (T.alloc 16 (cs := [.slice none 0 0, vS ([] : Str), .slice none 0 0]) rfl) ?_)
      rintro _ _ ⟨S, ko, rfl, rfl, C, g5⟩
      have U := C.o
      refine m0 C fun kp => Mw.lu rfl (T.sta (vs := [g2, vS F.Who, g4]) g5 rfl rfl (zaa r191.oc (zaa rfl (zaa r193.oc zaF))) rfl rfl) ?_
      rintro _ _ ⟨g6, rfl, G, eg⟩
      have V := G.s
      have eh := ((gr.up E).up C).up G
      have ei := ((gs.up E).up C).up G
      have ej := ((ec.up E).up C).up G
      have ek := ((ed.up E).up C).up G
      refine Mw.nil (ssr (fl eg rfl (Lw.ln F.Parents (r191.ul (U.trans V)) rfl (Lw.gt rfl (nl (cn hm (fun hm => ?_) fun hm => ?_))))))
      ·exact Cw.exit ((ag) ⟨ak, am, an, O, P, ptr (bx S), cd, ce, ao, ap, b, k, g6, rfl, ((E.j C).j G).w, rfl, eh, ei, ej, (r139.ul ((Q.trans U).trans V)), (r142.ul ((Q.trans U).trans V)), ek, hm⟩)
      ·refine sk (Cw.seq ?_)
       obtain ⟨af, el, hm⟩ := ob hm
       obtain ⟨aq, g7, hm⟩ := ob hm
       obtain ⟨y, em, hm⟩ := ob hm
       obtain ⟨ar, en, hm⟩ := ob hm
       obtain ⟨a, g8, hm⟩ := ob hm
       refine Cw.par [[], [], [], [2], [], [], [], [5, 6], [5, 6, 7], [4, 5, 6, 7, 8], [], [10], [], [], [12, 13], [12, 13, 14], [10, 11, 12, 13, 14, 15], [10, 11, 12, 13, 14, 15, 16], [10, 11, 12, 13, 14, 15, 16, 17], [0, 1, 2, 3, 4, 5, 6, 7, 8, 9, 10, 11, 12, 13, 14, 15, 16, 17, 18], [0, 1, 2, 3, 4, 5, 6, 7, 8, 9, 10, 11, 12, 13, 14, 15, 16, 17, 18, 19], [0, 1, 2, 3, 4, 5, 6, 7, 8, 9, 10, 11, 12, 13, 14, 15, 16, 17, 18, 19, 20], [0, 1, 2, 3, 4, 5, 6, 7, 8, 9, 10, 11, 12, 13, 14, 15, 16, 17, 18, 19, 20], [], [0, 1, 2, 3, 4, 5, 6, 7, 8, 9, 10, 11, 12, 13, 14, 15, 16, 17, 18, 19, 20, 21, 23], [0, 1, 2, 3, 4, 5, 6, 7, 8, 9, 10, 11, 12, 13, 14, 15, 16, 17, 18, 19, 20, 21, 22, 23, 24]] [[], [], [], [2], [], [], [], [5, 6], [7], [4, 8], [], [10], [], [], [12, 13], [14], [11, 15], [16], [17], [0, 1, 3, 9, 18], [19], [19, 20], [19, 20], [], [19, 21, 23], [22]] [[], [], [], [], [], [], [], [], [], [], [], [], [], [], [], [], [], [], [], [], [], [], [], [], [17], []] [[0], [1], [2], [3], [4], [5], [6], [7], [8], [9], [10], [11], [12], [13], [14], [15], [16], [17], [18], [19], [19, 20], [19, 21], [22], [23], [19, 23], [25]] [[], [], [], [], [], [], [], [], [], [0], [], [], [], [], [], [], [], [], [0], [0], [], [], [], [17], [17], []] [0, 1, 2, 3, 4, 5, 6, 7, 8, 9, 10, 11, 12, 13, 14, 15, 16, 17, 18, 19, 20, 21, 22, 24, 25] [17] [fun vs W => (vs 0) = .agg [b, k].toArray, fun vs W => (vs 1) = vS x1, fun vs W => (vs 2) = ptr ((bx S).add 1), fun vs W => (vs 3) = vS F.Who, fun vs W => (vs 4) = .agg [b, k].toArray, fun vs W => (vs 5) = i, fun vs W => (vs 6) = vI f, fun vs W => (vs 7) = ptr ((slA i).add ((f).toNat * Rp.sz (Int))), fun vs W => (vs 8) = vI af, fun vs W => Rd W [0] [(vs 9)] aq, fun vs W => (vs 10) = ptr ((bx J).add 0), fun vs W => (vs 11) = b, fun vs W => (vs 12) = i, fun vs W => (vs 13) = vI f, fun vs W => (vs 14) = ptr ((slA i).add ((f).toNat * Rp.sz (Int))), fun vs W => (vs 15) = vI y, fun vs W => (vs 16) = ptr ((slA b).add ((y).toNat * Rp.sz (Commit))), fun vs W => (vs 17) = ptr (((slA b).add ((y).toNat * Rp.sz (Commit))).add 2), fun vs W => Rd W [0] [(vs 18)] ar.Tree, fun vs W => (vs 19) = .tuple [.agg [(zae (zae (vs 19) 0) 0), (zae (zae (vs 19) 0) 1)].toArray, vI a.2].toArray ∧ Rd W [0] [(zae (zae (vs 19) 0) 0)] a.1.Commits ∧ Rd W [0] [(zae (zae (vs 19) 0) 1)] a.1.Heads, fun vs W => (vs 20) = .tuple [.agg [(zae (zae (vs 19) 0) 0), (zae (zae (vs 19) 0) 1)].toArray, vI a.2].toArray, fun vs W => (vs 21) = .agg [(zae (zae (vs 19) 0) 0), (zae (zae (vs 19) 0) 1)].toArray, fun vs W => (vs 22) = vI a.2, fun vs W => (vs 23) = ptr (bx (pg (vs 23))) ∧ Bx W 17 (pg (vs 23)) [.slice none 0 0, .slice none 0 0], fun vs W => (vs 23) = ptr (bx (pg (vs 23))) ∧ Bx W 17 (pg (vs 23)) [(zae (zae (vs 19) 0) 0), (zae (zae (vs 19) 0) 1)], fun vs W => (vs 25) = vI a.2] [] mixed (by kernel_rfl) rfl zrZ.nil ?_
       intro kq H
       have au := H.o
       have bl := ((bk.up C).up G).up H
       have bm := ek.up H
       refine ⟨(zaT.cons ?_ (zaT.cons ?_ (zaT.cons ?_ (zaT.cons ?_ (zaT.cons ?_ (zaT.cons ?_ (zaT.cons ?_ (zaT.cons ?_ (zaT.cons ?_ (zaT.cons ?_ (zaT.cons ?_ (zaT.cons ?_ (zaT.cons ?_ (zaT.cons ?_ (zaT.cons ?_ (zaT.cons ?_ (zaT.cons ?_ (zaT.cons ?_ (zaT.cons ?_ (zaT.cons ?_ (zaT.cons ?_ (zaT.cons ?_ (zaT.cons ?_ (zaT.cons ?_ (zaT.cons ?_ (zaT.cons ?_ zaT.nil)))))))))))))))))))))))))), (zda.cons (fun vs vs' W W' _ hv l hd h => by (show (vs' 0) = .agg [b, k].toArray); rw [hv 0 (zaq rfl)]; exact h) (zda.cons (fun vs vs' W W' _ hv l hd h => by (show (vs' 1) = vS x1); rw [hv 1 (zaq rfl)]; exact h) (zda.cons (fun vs vs' W W' _ hv l hd h => by (show (vs' 2) = ptr ((bx S).add 1)); rw [hv 2 (zaq rfl)]; exact h) (zda.cons (fun vs vs' W W' _ hv l hd h => by (show (vs' 3) = vS F.Who); rw [hv 3 (zaq rfl)]; exact h) (zda.cons (fun vs vs' W W' _ hv l hd h => by (show (vs' 4) = .agg [b, k].toArray); rw [hv 4 (zaq rfl)]; exact h) (zda.cons (fun vs vs' W W' _ hv l hd h => by (show (vs' 5) = i); rw [hv 5 (zaq rfl)]; exact h) (zda.cons (fun vs vs' W W' _ hv l hd h => by (show (vs' 6) = vI f); rw [hv 6 (zaq rfl)]; exact h) (zda.cons (fun vs vs' W W' _ hv l hd h => by (show (vs' 7) = ptr ((slA i).add ((f).toNat * Rp.sz (Int)))); rw [hv 7 (zaq rfl)]; exact h) (zda.cons (fun vs vs' W W' _ hv l hd h => by (show (vs' 8) = vI af); rw [hv 8 (zaq rfl)]; exact h) (zda.cons (fun vs vs' W W' _ hv l hd h => by (show Rd W' [0] [(vs' 9)] aq); rw [hv 9 (zaq rfl)]; exact h.up l (zj4 hd (K := [0]) rfl)) (zda.cons (fun vs vs' W W' _ hv l hd h => by (show (vs' 10) = ptr ((bx J).add 0)); rw [hv 10 (zaq rfl)]; exact h) (zda.cons (fun vs vs' W W' _ hv l hd h => by (show (vs' 11) = b); rw [hv 11 (zaq rfl)]; exact h) (zda.cons (fun vs vs' W W' _ hv l hd h => by (show (vs' 12) = i); rw [hv 12 (zaq rfl)]; exact h) (zda.cons (fun vs vs' W W' _ hv l hd h => by (show (vs' 13) = vI f); rw [hv 13 (zaq rfl)]; exact h) (zda.cons (fun vs vs' W W' _ hv l hd h => by (show (vs' 14) = ptr ((slA i).add ((f).toNat * Rp.sz (Int)))); rw [hv 14 (zaq rfl)]; exact h) (zda.cons (fun vs vs' W W' _ hv l hd h => by (show (vs' 15) = vI y); rw [hv 15 (zaq rfl)]; exact h) (zda.cons (fun vs vs' W W' _ hv l hd h => by (show (vs' 16) = ptr ((slA b).add ((y).toNat * Rp.sz (Commit)))); rw [hv 16 (zaq rfl)]; exact h) (zda.cons (fun vs vs' W W' _ hv l hd h => by (show (vs' 17) = ptr (((slA b).add ((y).toNat * Rp.sz (Commit))).add 2)); rw [hv 17 (zaq rfl)]; exact h) (zda.cons (fun vs vs' W W' _ hv l hd h => by (show Rd W' [0] [(vs' 18)] ar.Tree); rw [hv 18 (zaq rfl)]; exact h.up l (zj4 hd (K := [0]) rfl)) (zda.cons (fun vs vs' W W' _ hv l hd h => by (show (vs' 19) = .tuple [.agg [(zae (zae (vs' 19) 0) 0), (zae (zae (vs' 19) 0) 1)].toArray, vI a.2].toArray ∧ Rd W' [0] [(zae (zae (vs' 19) 0) 0)] a.1.Commits ∧ Rd W' [0] [(zae (zae (vs' 19) 0) 1)] a.1.Heads); rw [hv 19 (zaq rfl)]; exact ⟨h.1, h.2.1.up l (zj4 hd (K := [0]) rfl), h.2.2.up l (zj4 hd (K := [0]) rfl)⟩) (zda.cons (fun vs vs' W W' _ hv l hd h => by (show (vs' 20) = .tuple [.agg [(zae (zae (vs' 19) 0) 0), (zae (zae (vs' 19) 0) 1)].toArray, vI a.2].toArray); rw [hv 19 (zaq rfl), hv 20 (zaq rfl)]; exact h) (zda.cons (fun vs vs' W W' _ hv l hd h => by (show (vs' 21) = .agg [(zae (zae (vs' 19) 0) 0), (zae (zae (vs' 19) 0) 1)].toArray); rw [hv 19 (zaq rfl), hv 21 (zaq rfl)]; exact h) (zda.cons (fun vs vs' W W' _ hv l hd h => by (show (vs' 22) = vI a.2); rw [hv 22 (zaq rfl)]; exact h) (zda.cons (fun vs vs' W W' _ hv l hd h => by (show (vs' 23) = ptr (bx (pg (vs' 23))) ∧ Bx W' 17 (pg (vs' 23)) [.slice none 0 0, .slice none 0 0]); rw [hv 23 (zaq rfl)]; exact ⟨h.1, h.2.up l (zbi hd (c := 17) rfl)⟩) (zda.cons (fun vs vs' W W' _ hv l hd h => by (show (vs' 23) = ptr (bx (pg (vs' 23))) ∧ Bx W' 17 (pg (vs' 23)) [(zae (zae (vs' 19) 0) 0), (zae (zae (vs' 19) 0) 1)]); rw [hv 19 (zaq rfl), hv 23 (zaq rfl)]; exact ⟨h.1, h.2.up l (zbi hd (c := 17) rfl)⟩) (zda.cons (fun vs vs' W W' _ hv l hd h => by (show (vs' 25) = vI a.2); rw [hv 25 (zaq rfl)]; exact h) zda.nil)))))))))))))))))))))))))), ?_⟩
       ·intro vs W lW hN
        obtain ⟨g9, ha⟩ : ∃ X, X = W := ⟨W, rfl⟩
        subst ha
        refine Tr.mono (Run.tr (R.lda (cs := [b, k]) (bm.up lW rfl).cells rfl rfl)) ?_
        rintro _ _ ⟨hu, rfl⟩
        obtain rfl := hu.symm
        exact ⟨g9, rfl, Le.refl _ _, (show (.agg [b, k].toArray : Value) = .agg [b, k].toArray from rfl)⟩
       ·intro vs W lW hN
        obtain ⟨hb, hc⟩ : ∃ X, X = W := ⟨W, rfl⟩
        subst hc
        refine Tr.mono (Run.tr (R.mv (v := vS x1) rfl)) ?_
        rintro _ _ ⟨hu, rfl⟩
        obtain rfl := hu.symm
        exact ⟨hb, rfl, Le.refl _ _, (show (vS x1 : Value) = vS x1 from rfl)⟩
       ·intro vs W lW hN
        obtain ⟨he, hf⟩ : ∃ X, X = W := ⟨W, rfl⟩
        subst hf
        refine Tr.mono (Run.tr (R.fa rfl)) ?_
        rintro _ _ ⟨hu, rfl⟩
        obtain rfl := hu.symm
        exact ⟨he, rfl, Le.refl _ _, (show (ptr ((bx S).add 1) : Value) = ptr ((bx S).add 1) from rfl)⟩
       ·intro vs W lW hN
        obtain ⟨hg, hh⟩ : ∃ X, X = W := ⟨W, rfl⟩
        subst hh
        have cm : vs 2 = ptr ((bx S).add 1) := (hN 2 (zaq rfl))
        obtain ⟨vs, rfl⟩ := zar cm
        refine Tr.mono (Run.tr (R.ld (v := vS F.Who) rfl rfl (((eg.up H).up lW rfl).cell rfl))) ?_
        rintro _ _ ⟨hu, rfl⟩
        obtain rfl := hu.symm
        exact ⟨hg, rfl, Le.refl _ _, (show (vS F.Who : Value) = vS F.Who from rfl)⟩
       ·intro vs W lW hN
        obtain ⟨hi, hj⟩ : ∃ X, X = W := ⟨W, rfl⟩
        subst hj
        refine Tr.mono (Run.tr (R.lda (cs := [b, k]) (bm.up lW rfl).cells rfl rfl)) ?_
        rintro _ _ ⟨hu, rfl⟩
        obtain rfl := hu.symm
        exact ⟨hi, rfl, Le.refl _ _, (show (.agg [b, k].toArray : Value) = .agg [b, k].toArray from rfl)⟩
       ·intro vs W lW hN
        obtain ⟨hk, hl⟩ : ∃ X, X = W := ⟨W, rfl⟩
        subst hl
        refine Tr.mono (Run.tr (R.mv (v := i) rfl)) ?_
        rintro _ _ ⟨hu, rfl⟩
        obtain rfl := hu.symm
        exact ⟨hk, rfl, Le.refl _ _, (show (i : Value) = i from rfl)⟩
       ·intro vs W lW hN
        obtain ⟨hn, ho⟩ : ∃ X, X = W := ⟨W, rfl⟩
        subst ho
        refine Tr.mono (Run.tr (R.mv (v := vI f) rfl)) ?_
        rintro _ _ ⟨hu, rfl⟩
        obtain rfl := hu.symm
        exact ⟨hn, rfl, Le.refl _ _, (show (vI f : Value) = vI f from rfl)⟩
       ·intro vs W lW hN
        obtain ⟨hp, hq⟩ : ∃ X, X = W := ⟨W, rfl⟩
        subst hq
        have co : vs 5 = i := (hN 5 (zaq rfl))
        obtain ⟨vs, rfl⟩ := zar co
        have cp : vs 6 = vI f := (hN 6 (zaq rfl))
        obtain ⟨vs, rfl⟩ := zar cp
        refine Tr.mono (Run.tr (R.ix (α := Int) (bl.up lW rfl).rd el rfl rfl rfl)) ?_
        rintro _ _ ⟨hu, rfl⟩
        obtain rfl := hu.symm
        exact ⟨hp, rfl, Le.refl _ _, (show (ptr ((slA i).add ((f).toNat * Rp.sz (Int))) : Value) = ptr ((slA i).add ((f).toNat * Rp.sz (Int))) from rfl)⟩
       ·intro vs W lW hN
        obtain ⟨hr, hs⟩ : ∃ X, X = W := ⟨W, rfl⟩
        subst hs
        have cq : vs 7 = ptr ((slA i).add ((f).toNat * Rp.sz (Int))) := (hN 7 (zaq rfl))
        obtain ⟨vs, rfl⟩ := zar cq
        refine Tr.mono (Run.tr (R.ld rfl rfl ((bl.up lW rfl).rd.at_ el).int)) ?_
        rintro _ _ ⟨hu, rfl⟩
        obtain rfl := hu.symm
        exact ⟨hr, rfl, Le.refl _ _, (show (vI af : Value) = vI af from rfl)⟩
       ·intro vs W lW hN
        obtain ⟨kr, ht⟩ : ∃ X, X = W := ⟨W, rfl⟩
        subst ht
        have eo := (((Q.trans U).trans V).trans au).t lW rfl
        have ct : vs 4 = .agg [b, k].toArray := (hN 4 (zaq rfl))
        obtain ⟨vs, rfl⟩ := zar ct
        have cu : vs 8 = vI af := (hN 8 (zaq rfl))
        obtain ⟨vs, rfl⟩ := zar cu
        refine Tr.mono (T.call rfl (p62  (x0 := (Vm.Repo.mk O P)) (Repo.rd (K := [0]) O P (r139.ul eo) (r142.ul eo)) g7)) ?_
        rintro hw _ ⟨ep, rfl, hx, ⟨_, rfl, hy⟩⟩
        have hz := hy.sub (M := [0]) rfl
        exact ⟨ep, rfl, hx, (show Rd ep [0] [hw] aq from hz)⟩
       ·intro vs W lW hN
        obtain ⟨h1, h2⟩ : ∃ X, X = W := ⟨W, rfl⟩
        subst h2
        refine Tr.mono (Run.tr (R.fa rfl)) ?_
        rintro _ _ ⟨hu, rfl⟩
        obtain rfl := hu.symm
        exact ⟨h1, rfl, Le.refl _ _, (show (ptr ((bx J).add 0) : Value) = ptr ((bx J).add 0) from rfl)⟩
       ·intro vs W lW hN
        obtain ⟨h3, h4⟩ : ∃ X, X = W := ⟨W, rfl⟩
        subst h4
        have cv : vs 10 = ptr ((bx J).add 0) := (hN 10 (zaq rfl))
        obtain ⟨vs, rfl⟩ := zar cv
        refine Tr.mono (Run.tr (R.ld (v := b) rfl rfl ((bm.up lW rfl).cell rfl))) ?_
        rintro _ _ ⟨hu, rfl⟩
        obtain rfl := hu.symm
        exact ⟨h3, rfl, Le.refl _ _, (show (b : Value) = b from rfl)⟩
       ·intro vs W lW hN
        obtain ⟨h5, h6⟩ : ∃ X, X = W := ⟨W, rfl⟩
        subst h6
        refine Tr.mono (Run.tr (R.mv (v := i) rfl)) ?_
        rintro _ _ ⟨hu, rfl⟩
        obtain rfl := hu.symm
        exact ⟨h5, rfl, Le.refl _ _, (show (i : Value) = i from rfl)⟩
       ·intro vs W lW hN
        obtain ⟨h7, h8⟩ : ∃ X, X = W := ⟨W, rfl⟩
        subst h8
        refine Tr.mono (Run.tr (R.mv (v := vI f) rfl)) ?_
        rintro _ _ ⟨hu, rfl⟩
        obtain rfl := hu.symm
        exact ⟨h7, rfl, Le.refl _ _, (show (vI f : Value) = vI f from rfl)⟩
       ·intro vs W lW hN
        obtain ⟨h9, ia⟩ : ∃ X, X = W := ⟨W, rfl⟩
        subst ia
        have cw : vs 12 = i := (hN 12 (zaq rfl))
        obtain ⟨vs, rfl⟩ := zar cw
        have cx : vs 13 = vI f := (hN 13 (zaq rfl))
        obtain ⟨vs, rfl⟩ := zar cx
        refine Tr.mono (Run.tr (R.ix (α := Int) (bl.up lW rfl).rd em rfl rfl rfl)) ?_
        rintro _ _ ⟨hu, rfl⟩
        obtain rfl := hu.symm
        exact ⟨h9, rfl, Le.refl _ _, (show (ptr ((slA i).add ((f).toNat * Rp.sz (Int))) : Value) = ptr ((slA i).add ((f).toNat * Rp.sz (Int))) from rfl)⟩
       ·intro vs W lW hN
        obtain ⟨ib, ic⟩ : ∃ X, X = W := ⟨W, rfl⟩
        subst ic
        have cy : vs 14 = ptr ((slA i).add ((f).toNat * Rp.sz (Int))) := (hN 14 (zaq rfl))
        obtain ⟨vs, rfl⟩ := zar cy
        refine Tr.mono (Run.tr (R.ld rfl rfl ((bl.up lW rfl).rd.at_ em).int)) ?_
        rintro _ _ ⟨hu, rfl⟩
        obtain rfl := hu.symm
        exact ⟨ib, rfl, Le.refl _ _, (show (vI y : Value) = vI y from rfl)⟩
       ·intro vs W lW hN
        obtain ⟨id, ie⟩ : ∃ X, X = W := ⟨W, rfl⟩
        subst ie
        have ig := (((Q.trans U).trans V).trans au).t lW rfl
        have cz : vs 11 = b := (hN 11 (zaq rfl))
        obtain ⟨vs, rfl⟩ := zar cz
        have c0 : vs 15 = vI y := (hN 15 (zaq rfl))
        obtain ⟨vs, rfl⟩ := zar c0
        refine Tr.mono (Run.tr (R.ix (α := Commit) (r139.ul ig) en rfl rfl rfl)) ?_
        rintro _ _ ⟨hu, rfl⟩
        obtain rfl := hu.symm
        exact ⟨id, rfl, Le.refl _ _, (show (ptr ((slA b).add ((y).toNat * Rp.sz (Commit))) : Value) = ptr ((slA b).add ((y).toNat * Rp.sz (Commit))) from rfl)⟩
       ·intro vs W lW hN
        obtain ⟨ih, ii⟩ : ∃ X, X = W := ⟨W, rfl⟩
        subst ii
        have c1 : vs 16 = ptr ((slA b).add ((y).toNat * Rp.sz (Commit))) := (hN 16 (zaq rfl))
        obtain ⟨vs, rfl⟩ := zar c1
        refine Tr.mono (Run.tr (R.fa rfl)) ?_
        rintro _ _ ⟨hu, rfl⟩
        obtain rfl := hu.symm
        exact ⟨ih, rfl, Le.refl _ _, (show (ptr (((slA b).add ((y).toNat * Rp.sz (Commit))).add 2) : Value) = ptr (((slA b).add ((y).toNat * Rp.sz (Commit))).add 2) from rfl)⟩
       ·intro vs W lW hN
        obtain ⟨er, ij⟩ : ∃ X, X = W := ⟨W, rfl⟩
        subst ij
        have ik := (((Q.trans U).trans V).trans au).t lW rfl
        have c2 : vs 17 = ptr (((slA b).add ((y).toNat * Rp.sz (Commit))).add 2) := (hN 17 (zaq rfl))
        obtain ⟨vs, rfl⟩ := zar c2
        obtain ⟨il, c474, r475⟩ := (Commit.at2 ((r139.ul ik).at_ en)).cell rfl
        refine Tr.mono (Run.tr (R.ld rfl rfl c474)) ?_
        rintro _ _ ⟨hu, rfl⟩
        obtain rfl := hu.symm
        exact ⟨er, rfl, Le.refl _ _, (show Rd er [0] [il] ar.Tree from r475)⟩
       ·intro vs W lW hN
        obtain ⟨es, im⟩ : ∃ X, X = W := ⟨W, rfl⟩
        subst im
        have et := (((Q.trans U).trans V).trans au).t lW rfl
        have c3 : vs 0 = .agg [b, k].toArray := (hN 0 (zaq rfl))
        obtain ⟨vs, rfl⟩ := zar c3
        have c4 : vs 1 = vS x1 := (hN 1 (zaq rfl))
        obtain ⟨vs, rfl⟩ := zar c4
        have c5 : vs 3 = vS F.Who := (hN 3 (zaq rfl))
        obtain ⟨vs, rfl⟩ := zar c5
        obtain ⟨c6, c7⟩ : ∃ v, vs 9 = v := ⟨_, rfl⟩
        obtain ⟨vs, rfl⟩ := zar c7
        have io : Rd es [0] [c6] aq := (hN 9 (zaq rfl))
        obtain ⟨c8, c9⟩ : ∃ v, vs 18 = v := ⟨_, rfl⟩
        obtain ⟨vs, rfl⟩ := zar c9
        have ip : Rd es [0] [c8] ar.Tree := (hN 18 (zaq rfl))
        refine Tr.mono (T.call rfl (p61  (x0 := (Vm.Repo.mk O P)) (Repo.rd (K := [0]) O P (r139.ul et) (r142.ul et)) io ip g8)) ?_
        rintro _ _ ⟨da, rfl, iq, ⟨db, dc, rfl, ir, it⟩⟩
        have iu := ir.sub (M := [0]) rfl
        have iv := it.sub (M := [0]) rfl
        exact ⟨da, rfl, iq, (show (.tuple [.agg [db, dc].toArray, vI a.2].toArray : Value) = .tuple [.agg [db, dc].toArray, vI a.2].toArray ∧ Rd da [0] [db] a.1.Commits ∧ Rd da [0] [dc] a.1.Heads from ⟨rfl, iu, iv⟩)⟩
       ·intro vs W lW hN
        obtain ⟨dd, iw⟩ : ∃ X, X = W := ⟨W, rfl⟩
        subst iw
        obtain ⟨d, e, I⟩ : ∃ d e : Value, vs 19 = .tuple [.agg [d, e].toArray, vI a.2].toArray := ⟨_, _, (hN 19 (zaq rfl)).1⟩
        obtain ⟨vs, rfl⟩ := zar I
        have ks : Rd dd [0] [d] a.1.Commits := (hN 19 (zaq rfl)).2.1
        have kt : Rd dd [0] [e] a.1.Heads := (hN 19 (zaq rfl)).2.2
        refine Tr.mono (Run.tr (R.mv (v := .tuple [.agg [d, e].toArray, vI a.2].toArray) rfl)) ?_
        rintro _ _ ⟨hu, rfl⟩
        obtain rfl := hu.symm
        exact ⟨dd, rfl, Le.refl _ _, (show (.tuple [.agg [d, e].toArray, vI a.2].toArray : Value) = .tuple [.agg [d, e].toArray, vI a.2].toArray from rfl)⟩
       ·intro vs W lW hN
        obtain ⟨de, iy⟩ : ∃ X, X = W := ⟨W, rfl⟩
        subst iy
        obtain ⟨d, e, I⟩ : ∃ d e : Value, vs 19 = .tuple [.agg [d, e].toArray, vI a.2].toArray := ⟨_, _, (hN 19 (zaq rfl)).1⟩
        obtain ⟨vs, rfl⟩ := zar I
        have ku : Rd de [0] [d] a.1.Commits := (hN 19 (zaq rfl)).2.1
        have kv : Rd de [0] [e] a.1.Heads := (hN 19 (zaq rfl)).2.2
        have av : vs 20 = .tuple [.agg [d, e].toArray, vI a.2].toArray := (hN 20 (zaq rfl))
        obtain ⟨vs, rfl⟩ := zar av
        refine Tr.mono (Run.tr (R.ext (vs := [.agg [d, e].toArray, vI a.2]) (v := .agg [d, e].toArray) rfl rfl)) ?_
        rintro _ _ ⟨hu, rfl⟩
        obtain rfl := hu.symm
        exact ⟨de, rfl, Le.refl _ _, (show (.agg [d, e].toArray : Value) = .agg [d, e].toArray from rfl)⟩
       ·intro vs W lW hN
        obtain ⟨df, iz⟩ : ∃ X, X = W := ⟨W, rfl⟩
        subst iz
        obtain ⟨d, e, I⟩ : ∃ d e : Value, vs 19 = .tuple [.agg [d, e].toArray, vI a.2].toArray := ⟨_, _, (hN 19 (zaq rfl)).1⟩
        obtain ⟨vs, rfl⟩ := zar I
        have kw : Rd df [0] [d] a.1.Commits := (hN 19 (zaq rfl)).2.1
        have kx : Rd df [0] [e] a.1.Heads := (hN 19 (zaq rfl)).2.2
        have av : vs 20 = .tuple [.agg [d, e].toArray, vI a.2].toArray := (hN 20 (zaq rfl))
        obtain ⟨vs, rfl⟩ := zar av
        refine Tr.mono (Run.tr (R.ext (vs := [.agg [d, e].toArray, vI a.2]) (v := vI a.2) rfl rfl)) ?_
        rintro _ _ ⟨hu, rfl⟩
        obtain rfl := hu.symm
        exact ⟨df, rfl, Le.refl _ _, (show (vI a.2 : Value) = vI a.2 from rfl)⟩
       ·intro vs W lW hN
        obtain ⟨ky, i0⟩ : ∃ X, X = W := ⟨W, rfl⟩
        subst i0
        refine Tr.mono (T.alloc 17 (cs := [.slice none 0 0, .slice none 0 0]) rfl) ?_
        rintro _ _ ⟨dg, eu, rfl, rfl, i1, i2⟩
        exact ⟨eu, rfl, i1, (show (ptr (bx dg) : Value) = ptr (bx dg) ∧ Bx eu 17 dg [.slice none 0 0, .slice none 0 0] from ⟨rfl, i2⟩)⟩
       ·intro vs W lW hN
        obtain ⟨dh, i3⟩ : ∃ X, X = W := ⟨W, rfl⟩
        subst i3
        obtain ⟨d, e, I⟩ : ∃ d e : Value, vs 19 = .tuple [.agg [d, e].toArray, vI a.2].toArray := ⟨_, _, (hN 19 (zaq rfl)).1⟩
        obtain ⟨vs, rfl⟩ := zar I
        have i4 : Rd dh [0] [d] a.1.Commits := (hN 19 (zaq rfl)).2.1
        have i5 : Rd dh [0] [e] a.1.Heads := (hN 19 (zaq rfl)).2.2
        have di : vs 21 = .agg [d, e].toArray := (hN 21 (zaq rfl))
        obtain ⟨vs, rfl⟩ := zar di
        obtain ⟨z, dj⟩ : ∃ z, vs 23 = ptr (bx z) := ⟨_, ((hN 23 (zaq rfl))).1⟩
        obtain ⟨vs, rfl⟩ := zar dj
        have i6 : Bx dh 17 z [.slice none 0 0, .slice none 0 0] := (hN 23 (zaq rfl)).2
        refine Tr.mono (T.sta (vs := [d, e]) i6 rfl rfl (zaa i4.oc (zaa i5.oc zaF)) rfl rfl) ?_
        rintro _ _ ⟨ew, rfl, i7, i8⟩
        exact ⟨ew, rfl, i7, (show (ptr (bx z)) = ptr (bx z) ∧ Bx ew 17 z [d, e] from ⟨rfl, i8⟩)⟩
       ·intro vs W lW hN
        obtain ⟨i9, ja⟩ : ∃ X, X = W := ⟨W, rfl⟩
        subst ja
        have dk : vs 22 = vI a.2 := (hN 22 (zaq rfl))
        obtain ⟨vs, rfl⟩ := zar dk
        refine Tr.mono (Run.tr (R.as (v := vI a.2) rfl)) ?_
        rintro _ _ ⟨hu, rfl⟩
        obtain rfl := hu.symm
        exact ⟨i9, rfl, Le.refl _ _, (show (vI a.2 : Value) = vI a.2 from rfl)⟩
       ·intro vs W lW hN
        obtain ⟨aw, jb⟩ : ∃ X, X = W := ⟨W, rfl⟩
        subst jb
        have dl := ((((cf.trans Q).trans U).trans V).trans au).t lW rfl
        have ex := (ej.up H).up lW rfl
        obtain ⟨jc, hl581⟩ : ∃ x, x = lW := ⟨lW, rfl⟩
        have c3 : vs 0 = .agg [b, k].toArray := (hN 0 (zaq rfl))
        obtain ⟨vs, rfl⟩ := zar c3
        have c4 : vs 1 = vS x1 := (hN 1 (zaq rfl))
        obtain ⟨vs, rfl⟩ := zar c4
        have cm : vs 2 = ptr ((bx S).add 1) := (hN 2 (zaq rfl))
        obtain ⟨vs, rfl⟩ := zar cm
        have c5 : vs 3 = vS F.Who := (hN 3 (zaq rfl))
        obtain ⟨vs, rfl⟩ := zar c5
        have ct : vs 4 = .agg [b, k].toArray := (hN 4 (zaq rfl))
        obtain ⟨vs, rfl⟩ := zar ct
        have co : vs 5 = i := (hN 5 (zaq rfl))
        obtain ⟨vs, rfl⟩ := zar co
        have cp : vs 6 = vI f := (hN 6 (zaq rfl))
        obtain ⟨vs, rfl⟩ := zar cp
        have cq : vs 7 = ptr ((slA i).add ((f).toNat * Rp.sz (Int))) := (hN 7 (zaq rfl))
        obtain ⟨vs, rfl⟩ := zar cq
        have cu : vs 8 = vI af := (hN 8 (zaq rfl))
        obtain ⟨vs, rfl⟩ := zar cu
        obtain ⟨c6, c7⟩ : ∃ v, vs 9 = v := ⟨_, rfl⟩
        obtain ⟨vs, rfl⟩ := zar c7
        have kz : Rd aw [0] [c6] aq := (hN 9 (zaq rfl))
        have cv : vs 10 = ptr ((bx J).add 0) := (hN 10 (zaq rfl))
        obtain ⟨vs, rfl⟩ := zar cv
        have cz : vs 11 = b := (hN 11 (zaq rfl))
        obtain ⟨vs, rfl⟩ := zar cz
        have cw : vs 12 = i := (hN 12 (zaq rfl))
        obtain ⟨vs, rfl⟩ := zar cw
        have cx : vs 13 = vI f := (hN 13 (zaq rfl))
        obtain ⟨vs, rfl⟩ := zar cx
        have cy : vs 14 = ptr ((slA i).add ((f).toNat * Rp.sz (Int))) := (hN 14 (zaq rfl))
        obtain ⟨vs, rfl⟩ := zar cy
        have c0 : vs 15 = vI y := (hN 15 (zaq rfl))
        obtain ⟨vs, rfl⟩ := zar c0
        have c1 : vs 16 = ptr ((slA b).add ((y).toNat * Rp.sz (Commit))) := (hN 16 (zaq rfl))
        obtain ⟨vs, rfl⟩ := zar c1
        have c2 : vs 17 = ptr (((slA b).add ((y).toNat * Rp.sz (Commit))).add 2) := (hN 17 (zaq rfl))
        obtain ⟨vs, rfl⟩ := zar c2
        obtain ⟨c8, c9⟩ : ∃ v, vs 18 = v := ⟨_, rfl⟩
        obtain ⟨vs, rfl⟩ := zar c9
        have k2 : Rd aw [0] [c8] ar.Tree := (hN 18 (zaq rfl))
        obtain ⟨d, e, I⟩ : ∃ d e : Value, vs 19 = .tuple [.agg [d, e].toArray, vI a.2].toArray := ⟨_, _, (hN 19 (zaq rfl)).1⟩
        obtain ⟨vs, rfl⟩ := zar I
        have ey : Rd aw [0] [d] a.1.Commits := (hN 19 (zaq rfl)).2.1
        have ez : Rd aw [0] [e] a.1.Heads := (hN 19 (zaq rfl)).2.2
        have av : vs 20 = .tuple [.agg [d, e].toArray, vI a.2].toArray := (hN 20 (zaq rfl))
        obtain ⟨vs, rfl⟩ := zar av
        have di : vs 21 = .agg [d, e].toArray := (hN 21 (zaq rfl))
        obtain ⟨vs, rfl⟩ := zar di
        have dk : vs 22 = vI a.2 := (hN 22 (zaq rfl))
        obtain ⟨vs, rfl⟩ := zar dk
        obtain ⟨z, dj⟩ : ∃ z, vs 23 = ptr (bx z) := ⟨_, (hN 24 (zaq rfl)).1⟩
        obtain ⟨vs, rfl⟩ := zar dj
        have jd : Bx aw 17 z [d, e] := (hN 24 (zaq rfl)).2
        have je : vs 25 = vI a.2 := (hN 25 (zaq rfl))
        obtain ⟨vs, rfl⟩ := zar je
        refine ssr (mi rfl (Lw.ne rfl (nl (cn hm (fun hm => ?_) fun hm => ?_))))
        ·refine sr (la ((((ef.up C).up G).up H).up lW rfl) (cr hm (fun _ => p58 (k0 := 18) (k1 := 19) (Repo.rd (K := [0]) x0.Commits x0.Heads (D.ul dl) (Y.ul dl))) ?_))
         rintro e0 _ k3 hm e1 ⟨e2, e3, rfl, e4, e5⟩
         have jf := dl.n e1
         refine mi rfl (sta (ex.up e1) (zaa e4.oc (zaa e5.oc zaF)) fun k4 dm jg => ?_)
         have jh := jf.t dm
         refine Ni rfl ?_
         obtain ⟨ji, jj, dn, jk⟩ := zl7 _ 18
         have jl : Rd (α := List Vm.Commit) ji [0] [e2] e0.Commits := by rw [jk]; exact ((e4.up dm).rd.dye 18).sub (M := [0]) rfl
         have jm := jh.t dn
         obtain ⟨jo, jp, e6, jq⟩ := zl7 _ 19
         have jr : Rd (α := List Vm.Head) jo [0] [e3] e0.Heads := by rw [jq]; exact (((e5.up dm).up dn).rd.dye 19).sub (M := [0]) rfl
         have e7 := e6.s
         cases hm
         rw [← jp.trans (jj)]
         exact Cw.ret (zfa rfl ((jg.up dn).up e6) rfl (Res.mk (jm.trans e7) ⟨e2, e3, rfl, (jl.ul e7), jr⟩))
        ·refine sk (rg (Lw.r rfl (R.lda (cs := [d, e]) jd.cells rfl rfl) (sta (bm.up lW rfl) (zaa ey.oc (zaa ez.oc zaF)) fun js ax jt => ?_)))
         have e8 := ax.s
         exact nl ((ag) ⟨ak, am, an, a.1.Commits, a.1.Heads, ptr (bx S), ptr (bx z), vI a.2, ao, ap, d, e, js, rfl, (((((E.j C).j G).j H).j jc).j ax).w, rfl, (((eh.up H).up lW rfl).up ax), (((ei.up H).up lW rfl).up ax), (ex.up ax), (ey.ul e8), (ez.ul e8), jt, hm⟩)
    ·refine Cw.exit ?_
     rw [go] at hm
     refine sr (la ed (sta ec (zaa r139.oc (zaa r142.oc zaF)) fun k5 ju jv => ?_))
     have dp := ju.s
     refine Ni rfl ?_
     cases hm
     exact Cw.ret (zfa rfl jv rfl (Res.mk (cf.trans dp) ⟨b, k, rfl, (r139.ul dp), (r142.ul dp)⟩))
  ·refine rg (la a1 (ms rfl (ca hm (fun _ => p56 (Repo.rd (K := [0]) x0.Commits x0.Heads (D.ul ah) (Y.ul ah))) fun k6 jw hm bn => ?_)))
   have jx := ah.n bn
   refine Lw.lt rfl (mb rfl (bs hm (fun ay hm => ?_) fun ay hm => ?_))
   ·exact psk 7 ay rfl (Pb ay rfl (nl ((ag) ⟨true, jw, rfl, bn, rfl, hm⟩)))
   ·exact wak 7 ay (mi rfl (fl (a1.up bn) rfl (Lw.ln x0.Commits (D.ul jx) rfl (Lw.sub rfl (ca hm (fun _ => p57) fun jy jz hm j0 => Lw.r rfl (R.not rfl) (Pb ay rfl (nl ((ag) ⟨(!jy), jz, rfl, (bn.j j0).w, rfl, hm⟩))))))))
theorem p12 {x0 d f x1 x2 r} (h : Rd W K [d, f] x0) (hm : Vm.zjk x0 x1 x2 = some r) : Q1 12 [.agg [d, f].toArray, vS x1, vI x2] W [] fun W' v => ∃ a b, v = .tuple [.agg [a, b].toArray, vI r.2].toArray ∧ Rd W' (0 :: K) [a] r.1.Commits ∧ Rd W' (0 :: K) [b] r.1.Heads :=
 (c12 (h.view _) hm).ad (fk 0) fun _ _ ⟨a, b, e, i, k⟩ => ⟨a, b, e, i.back rfl, k.back rfl⟩
theorem c69 {x0 G H x1 x2 y r} (h0 : Rd W0 [0] [G, H] x0) (z : Rd W0 [0] [y] x2) (hm : Vm.zhq x0 x1 x2 = some r) : Q0 69 [.agg [G, H].toArray, vI x1, y] W0 fun Wf v => ∃ I, v = I ∧ OwS Wf LL [] [I] r := by
 unfold Vm.zhq at hm
 obtain ⟨a3, a4, J, L, M⟩ := Repo.split h0
 simp only [List.cons.injEq, and_true, true_and] at J
 obtain ⟨rfl, rfl⟩ := J
 refine zau.of Tryz.func69 rfl rfl rfl rfl (sr (bo 2 rfl fun g1 W1 l1 N => ?_))
 have A := l1.o
 refine Nv (.slice none 0 0) rfl (sr (la N (mi rfl (cr hm (fun _ => p89 (k0 := 3) (Repo.rd (K := [0]) x0.Commits x0.Heads (L.ul A) (M.ul A))) ?_))))
 rintro z5 a O hm P ⟨_, rfl, ai⟩
 have Q := A.n P
 refine Nv a rfl (ssr (mv y rfl (Lw.ln x2 (z.ul Q) rfl (mi rfl (nl (Cw.block ?_))))))
 obtain ⟨aj, ak, hm⟩ := zbk hm
 refine Cw.loop 17 34 [9, 11, 17] (fun m l w => ∃ e f S B h, CW.w h = w ∧ Le [3] O h ∧ l = [S, B, vI e] ∧ Ow h 3 [] [a] f ∧ Vm.zdh x0 x2 aj m e f = some r) _ ⟨0, z5, undef, undef, O, rfl, Le.refl _ _, rfl, ai, hm⟩ ?_
 rintro (_ | a7) _ _ σ ⟨e, f, S, B, h, rfl, C, rfl, U, hm⟩
 ·cases hm
 unfold Vm.zdh at hm
 have b := Q.t C
 refine sr (Lw.lt rfl (nl (Cw.seq (cn hm (fun hm => ?_) fun hm => ?_))))
 ·refine sk (Cw.seq (Cw.block (sr ?_)))
  obtain ⟨am, V, hm⟩ := ob hm
  refine Lw.r rfl (R.ix (α := Int) (z.ul b) V rfl rfl rfl) (Lw.r rfl (R.ld rfl rfl ((z.ul b).at_ V).int) (Ni rfl (sr (la ((N.up P).up C) (mi rfl (cr hm (fun _ => p89 (k0 := 4) (Repo.rd (K := [0]) x0.Commits x0.Heads (L.ul b) (M.ul b))) ?_))))))
  rintro a9 ba bb hm W ⟨_, rfl, an⟩
  refine cr hm (fun _ => p127 (K := [4]) (k0 := 5) an.rd) ?_
  rintro X bc Y hm Z ⟨_, rfl, D⟩
  refine Lw.ln X D.rd rfl (mi rfl (nl (Cw.block ?_)))
  obtain ⟨ao, ap, hm⟩ := zbk hm
  refine Cw.loop 26 33 [11, 26] (fun m l w => ∃ i k E d, CW.w d = w ∧ Le [3] Y d ∧ l = [E, vI i] ∧ Ow d 3 [] [a] k ∧ Vm.zd1 X ao m i k = some r) _ ⟨0, f, B, Y, rfl, Le.refl _ _, rfl, ((U.up W).up Z), hm⟩ ?_
  rintro (_ | be) _ _ σ ⟨i, k, E, d, rfl, x, rfl, F, hm⟩
  ·cases hm
  unfold Vm.zd1 at hm
  refine sr (Lw.lt rfl (nl (Cw.seq (cn hm (fun hm => ?_) fun hm => ?_))))
  ·refine sk (Cw.seq (Cw.block (sr ?_)))
   obtain ⟨aq, aa, hm⟩ := ob hm
   refine Lw.r rfl (R.ix (α := Int) (D.up x).rd aa rfl rfl rfl) (Lw.r rfl (R.ld rfl rfl ((D.up x).rd.at_ aa).int) (Ni rfl (rg (mv a rfl (mi rfl ?_)))))
   obtain ⟨bg, ar, hm⟩ := ob hm
   refine Lw.r rfl (R.ix (α := Bool) F.rd ar rfl rfl rfl) ?_
   obtain ⟨au, av, hm⟩ := ob hm
   refine Lw.u (T.stS (K' := []) F (rdB _) av rfl rfl rfl) ?_
   rintro _ _ ⟨aw, rfl, ax, ay⟩
   exact nl (rg (Lw.add rfl (mi rfl (nl ((agm) ⟨w64 (i + 1), au, vI aq, aw, rfl, (x.j ax).w, rfl, ay, hm⟩)))))
  ·refine Cw.exit ?_
   rw [ap] at hm
   exact rg (Lw.add rfl (mi rfl (nl ((agm) ⟨w64 (e + 1), k, vI am, E, d, rfl, (((C.j W).j Z).j x).w, rfl, F, hm⟩))))
 ·refine Cw.exit ?_
  rw [ak] at hm
  refine sr (mv a rfl (cr hm (fun _ => p127 (K := [3]) (k0 := 6) U.rd) ?_))
  rintro bh ac bi hm az ⟨_, rfl, a0⟩
  have a1 := b.n az
  refine Nv ac rfl ?_
  cases hm
  exact Cw.ret (zjQ rfl (Res.mk a1 ⟨ac, rfl, a0.s.sub rfl rfl⟩))
theorem p69 {x0 b d x1 x2 f k0 r} (h : Rd W K [b, d] x0) (i : Rd W K [f] x2) (hm : Vm.zhq x0 x1 x2 = some r) : Q1 69 [.agg [b, d].toArray, vI x1, f] W [] fun W' v => ∃ a, v = a ∧ Ow W' k0 [] [a] r :=
 (c69 (h.view _) (i.view _) hm).ad (fk k0) fun _ _ ⟨a, e, k⟩ => ⟨a, e, k.back (ziE _)⟩
theorem c128 {x0 d e x1 r} (y : Rd W0 [0] [d, e] x0) (hm : Vm.zed x0 x1 = some r) : Q0 128 [.agg [d, e].toArray, vI x1] W0 fun Wf v => v = vI r := by
 unfold Vm.zed at hm
 obtain ⟨C, D, f, z, E⟩ := Repo.split y
 simp only [List.cons.injEq, and_true, true_and] at f
 obtain ⟨rfl, rfl⟩ := f
 refine zau.of Tryz.func128 rfl rfl rfl rfl (sr (bo 2 rfl fun F G A h => ?_))
 have b := A.o
 refine Ni rfl (ssr (fl h rfl (mi rfl ?_)))
 obtain ⟨B, i, hm⟩ := ob hm
 have a := z.ul b
 refine Lw.r rfl (R.ix (α := Commit) a i rfl rfl rfl) (Lw.fa rfl ?_)
 obtain ⟨H, c7, r8⟩ := (Commit.at0 (a.at_ i)).cell rfl
 refine Lw.r rfl (R.ld rfl rfl c7) (Lw.ln B.Parents r8 rfl (Lw.eq rfl (nl (cn hm (fun hm => ?_) fun hm => ?_))))
 ·exact sr (Ni rfl (.ret (rt hm b)))
 ·refine sk (sr (fl h rfl (mi rfl ?_)))
  obtain ⟨I, k, hm⟩ := ob hm
  refine Lw.r rfl (R.ix (α := Commit) a k rfl rfl rfl) (Lw.fa rfl ?_)
  obtain ⟨J, c13, r14⟩ := (Commit.at0 (a.at_ k)).cell rfl
  refine Lw.r rfl (R.ld rfl rfl c13) ?_
  obtain ⟨K, x, hm⟩ := ob hm
  exact Lw.r rfl (R.ix (α := Int) r14 x rfl rfl rfl) (Lw.r rfl (R.ld rfl rfl (r14.at_ x).int) (Ni rfl (.ret (rt hm b))))
theorem p128 {x0 a b x1 r} (d : Rd W K [a, b] x0) (hm : Vm.zed x0 x1 = some r) : Q1 128 [.agg [a, b].toArray, vI x1] W [] fun W' v => v = vI r :=
 (c128 (d.view _) hm).ad (fk 0) fun _ _ e => e
end Go.Sx
