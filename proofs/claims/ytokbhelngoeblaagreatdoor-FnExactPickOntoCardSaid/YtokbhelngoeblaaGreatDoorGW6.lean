/- Walks: each function answers as its model, printed by a program of ours. Conditions: the arguments read as they are given. -/
import Derived.Test.YtokbhelngoeblaaGreatDoorGTs
import Derived.Test.YtokbhelngoeblaaGreatDoorGM1
import Derived.Test.YtokbhelngoeblaaGreatDoorGW0
import Derived.Test.YtokbhelngoeblaaGreatDoorGW1
import Derived.Test.YtokbhelngoeblaaGreatDoorGW2
import Derived.Test.YtokbhelngoeblaaGreatDoorGW4
import Derived.Test.YtokbhelngoeblaaGreatDoorGW5
import Derived.Test.YtokbhelngoeblaaGreatDoorGE
namespace Go.Sx
open Go Go.Proofs Go.Vm Rp
set_option linter.unusedVariables false
set_option linter.unusedSimpArgs false
variable {W W0 : CW} {K : List Nat}
theorem c12 {x0 az a0 x1 x2 r} (h0 : Rd W0 [0] [az, a0] x0) (hm : Vm.zfx x0 x1 x2 = some r) : Q0 12 [.agg [az, a0].toArray, vS x1, vI x2] W0 fun Wf v => ∃ dq dr, v = .tuple [.agg [dq, dr].toArray, vI r.2].toArray ∧ Rd Wf [0] [dq] r.1.Commits ∧ Rd Wf [0] [dr] r.1.Heads := by
 unfold Vm.zfx at hm
 obtain ⟨j1, j2, ds, D, Y⟩ := Repo.split h0
 simp only [List.cons.injEq, and_true, true_and] at ds
 obtain ⟨rfl, rfl⟩ := ds
 refine zaj.of Tryz.func12 rfl rfl rfl rfl (sr (bo 2 rfl fun g1 W1 l1 b1 => ?_))
 have a2 := l1.o
 refine al 3 [.slice none 0 0, .slice none 0 0] fun g3 W3 l3 b3 => ?_
 have a4 := a2.n l3
 refine Ni rfl (ssr (la (b1.up l3) (ca hm (fun _ => p55 (Repo.rd (K := [0]) x0.Commits x0.Heads (D.ul a4) (Y.ul a4))) fun z8 fd hm l10 => ?_)))
 have ah := a4.n l10
 have a1 := (b1.up l3).up l10
 refine Lw.r rfl (R.not rfl) (nl (cn hm (fun hm => ?_) fun hm => ?_))
 ·refine sr (Lw.r rfl (R.bd (zs := [.slice none 0 0, .slice none 0 0]) (cs := [.slice none 0 0, .slice none 0 0]) [] rfl rfl rfl zdN) (sta (b3.up l10) (zaa rfl (zaa rfl zaR)) fun j7 fe ff => ?_))
  have fg := ah.t fe
  refine Ni rfl ?_
  cases hm
  exact Cw.ret (zjH rfl ff rfl (Res.mk fg ⟨.slice none 0 0, .slice none 0 0, rfl, (rdN (K := [0])), (rdN (K := [0]))⟩))
 ·refine sk (Cw.seq ?_)
  obtain ⟨fh, fi, hm⟩ := zaS hm
  refine Cw.join 18 30 [30] (fun l w => ∃ br bu, CW.w bu = w ∧ Le [] fd bu ∧ l = [vB br] ∧ fh br = some r) ?_ ?_
  ·rintro _ _ σ ⟨br, bu, rfl, a3, rfl, hm⟩
   rw [fi] at hm
   have a5 := ah.n a3
   have dw := (b3.up l10).up a3
   refine cn hm (fun hm => ?_) fun hm => ?_
   ·refine sr (la (a1.up a3) (cr hm (fun _ => p58 (k0 := 4) (k1 := 5) (Repo.rd (K := [0]) x0.Commits x0.Heads (D.ul a5) (Y.ul a5))) ?_))
    rintro dx _ j8 hm dy ⟨dz, d0, rfl, d1, d2⟩
    have fj := a5.n dy
    refine sta (dw.up dy) (zaa d1.oc (zaa d2.oc zaR)) fun j9 bv fm => ?_
    have fn := fj.t bv
    refine Ni rfl ?_
    obtain ⟨fo, fp, bw, fq⟩ := zp4 _ 4
    have fr : Rd (α := List Vm.Commit) fo [0] [dz] dx.Commits := by rw [fq]; exact ((d1.up bv).rd.dye 4).sub (M := [0]) rfl
    have fs := fn.t bw
    obtain ⟨ft, fu, d3, fv⟩ := zp4 _ 5
    have fw : Rd (α := List Vm.Head) ft [0] [d0] dx.Heads := by rw [fv]; exact (((d2.up bv).up bw).rd.dye 5).sub (M := [0]) rfl
    have d4 := d3.s
    cases hm
    rw [← fu.trans (fp)]
    exact Cw.ret (zjH rfl ((fm.up bw).up d3) rfl (Res.mk (fs.trans d4) ⟨dz, d0, rfl, (fr.ul d4), fw⟩))
   ·refine sk (Cw.seq (Cw.draw [] [(0, 1), (1, 0), (2, 1), (3, 0), (4, 2), (5, 3), (6, 0)] mixed (by kernel_rfl) fun ka bz => ?_))
    have b0 := a5.n bz
    have b2 := (a1.up a3).up bz
    refine Mw.q rfl rfl (fun _ c => R.lda (cs := [az, a0]) (b2.clcs rfl c) rfl rfl) (Di rfl (Mw.q rfl rfl (fun _ c => R.lda (cs := [az, a0]) (b2.clcs rfl c) rfl rfl) (Ds rfl ?_)))
    obtain ⟨kb, fx, hm⟩ := ob hm
    refine Mw.t rfl rfl (T.call rfl (p56  (Repo.rd (K := [0]) x0.Commits x0.Heads (D.ul b0) (Y.ul b0)) fx)) ?_
    rintro _ _ ⟨kc, rfl, a6, rfl⟩
    have b4 := b0.n a6
    refine m0 a6 fun kd => ?_
    obtain ⟨d5, fy, hm⟩ := ob hm
    refine Mw.l rfl rfl (T.call rfl (p59 (k0 := 6) (Repo.rd (K := [0]) x0.Commits x0.Heads (D.ul b4) (Y.ul b4)) fy)) ?_
    rintro i _ ⟨ke, rfl, b5, ⟨_, rfl, fz⟩⟩
    have b6 := b4.n b5
    have d6 := (b2.up a6).up b5
    refine Hv i rfl (Mw.nil (sr (la d6 (cr hm (fun _ => p58 (k0 := 7) (k1 := 8) (Repo.rd (K := [0]) x0.Commits x0.Heads (D.ul b6) (Y.ul b6))) ?_))))
    rintro Z _ kf hm a7 ⟨f0, f1, rfl, d7, d8⟩
    have f2 := b6.n a7
    refine ms rfl (mi rfl (cr hm (fun _ => p60 (K := [7, 8]) (x0 := (Vm.Repo.mk Z.Commits Z.Heads)) (Repo.rd (K := [7, 8]) Z.Commits Z.Heads (d7.rd.sub (M := [7, 8]) rfl) (d8.rd.sub (M := [7, 8]) rfl))) ?_))
    rintro aa _ kg hm ac ⟨b7, b8, rfl, f3, f4⟩
    have d9 := f3.sub (M := [0, 7, 8]) rfl
    have ea := f4.sub (M := [0, 7, 8]) rfl
    have f5 := f2.n ac
    refine al 9 [.slice none 0 0, .slice none 0 0] fun J kh L f6 => ?_
    have f7 := f5.n L
    refine sta f6 (zaa d9.oc (zaa ea.oc zaR)) fun ki N f8 => ?_
    have f9 := f7.t N
    refine nl (ssr (Ni rfl (Cw.block ?_)))
    have ga := d9.up ((L.sub (M := [9]) rfl).trans (N.sub (M := [9]) rfl)) rfl
    have gb := ea.up ((L.sub (M := [9]) rfl).trans (N.sub (M := [9]) rfl)) rfl
    obtain ⟨b9, gc, ae, cb⟩ := zp4 _ 7
    rw [← gc]
    have gd : Rd b9 [0, 8] [b7] aa.Commits := by rw [cb]; exact (ga.dye 7).sub (M := [0, 8]) rfl
    have gf : Rd b9 [0, 8] [b8] aa.Heads := by rw [cb]; exact (gb.dye 7).sub (M := [0, 8]) rfl
    have kj : Rd (α := List Vm.Commit) b9 [0] [f0] Z.Commits := by rw [cb]; exact ((((d7.up ac).up L).up N).rd.dye 7).sub (M := [0]) rfl
    have gg := f9.t ae
    obtain ⟨ai, gh, aj, cc⟩ := zp4 _ 8
    rw [← gh]
    have gj : Rd ai [0] [b7] aa.Commits := by rw [cc]; exact (gd.dye 8).sub (M := [0]) rfl
    have gk : Rd ai [0] [b8] aa.Heads := by rw [cc]; exact (gf.dye 8).sub (M := [0]) rfl
    have kk : Rd (α := List Vm.Head) ai [0] [f1] Z.Heads := by rw [cc]; exact (((((d8.up ac).up L).up N).up ae).rd.dye 8).sub (M := [0]) rfl
    have gm := gg.t aj
    obtain ⟨gn, go, hm⟩ := zaS hm
    refine Cw.loop 44 90 [7, 10, 11, 12, 13] (fun m l w => ∃ ak f am an O P eb cd ce ao ap b k A, CW.w A = w ∧ Le [9, 16, 17] ai A ∧ l = [vI ak, vI f, eb, cd, ce] ∧ Ow A 14 [] [ao] am ∧ Ow A 15 [] [ap] an ∧ Bx A 3 g3 [ao, ap] ∧ Rd A [0] [b] O ∧ Rd A [0] [k] P ∧ Bx A 9 J [b, k] ∧ Vm.zcK x0 x1 d5 gn m ak f am an O P = some r) _ ⟨0, 0, ([] : List Commit), ([] : List Head), aa.Commits, aa.Heads, undef, undef, undef, .slice none 0 0, .slice none 0 0, b7, b8, ai, rfl, Le.refl _ _, rfl, owN 14 [], owN 15 [], (((((((((dw.up bz).up a6).up b5).up a7).up ac).up L).up N).up ae).up aj), gj, gk, ((f8.up ae).up aj), hm⟩ ?_
    rintro (_ | kl) _ _ σ ⟨ak, f, am, an, O, P, eb, cd, ce, ao, ap, b, k, A, rfl, a8, rfl, gr, gs, ec, r139, r142, ed, hm⟩
    ·cases hm
    unfold Vm.zcK at hm
    have cf := gm.t a8
    have ee := ((((((fz.up a7).up ac).up L).up N).up ae).up aj).up a8
    refine ssr (mi rfl (mv i rfl (Lw.ln d5 ee.rd rfl (Lw.lt rfl (nl (cn hm (fun hm => ?_) fun hm => ?_))))))
    ·refine sk ?_
     obtain ⟨gu, gv, hm⟩ := zaS hm
     refine Cw.join 50 90 [7, 11, 12, 13] (fun l w => ∃ a9 ba bb bc be cg ch ci bg bh bi bj B, CW.w B = w ∧ Le [9, 16, 17] A B ∧ l = [vI a9, cg, ch, ci] ∧ Ow B 14 [] [bg] ba ∧ Ow B 15 [] [bh] bb ∧ Bx B 3 g3 [bg, bh] ∧ Rd B [0] [bi] bc ∧ Rd B [0] [bj] be ∧ Bx B 9 J [bi, bj] ∧ gu a9 ba bb bc be = some r) ?_ ?_
     ·rintro _ _ σ ⟨a9, ba, bb, bc, be, cg, ch, ci, bg, bh, bi, bj, B, rfl, gw, rfl, gx, gy, gz, r164, r167, g0, hm⟩
      rw [gv] at hm
      exact rg (mi rfl (Lw.add rfl (Ni rfl ((agm) ⟨a9, w64 (f + 1), ba, bb, bc, be, cg, ch, ci, bg, bh, bi, bj, B, rfl, (a8.j gw).w, rfl, gx, gy, gz, r164, r167, g0, hm⟩))))
     ·refine Cw.block (Cw.seq (Cw.draw [] [(0, 0), (1, 1), (2, 0), (3, 0), (4, 0), (5, 1), (6, 0), (7, 1), (8, 2), (9, 3)] mixed (by kernel_rfl) fun km E => ?_))
      have Q := E.o
      have bk := ee.up E
      have ef := (((((((d6.up a7).up ac).up L).up N).up ae).up aj).up a8).up E
      refine Dfl ef rfl rfl rfl (Dv i rfl (Di rfl ?_))
      obtain ⟨kn, cj, hm⟩ := ob hm
      refine Mw.p rfl rfl (fun _ => R.ix (α := Int) bk.rd cj rfl rfl rfl) (Mw.q rfl rfl (fun _ c => R.ld rfl rfl (zah (bk.rd.at_ cj).1 rfl (bk.rd.at_ cj).int c)) ?_)
      obtain ⟨F, ck, hm⟩ := ob hm
      have cl := D.ul (cf.trans Q)
      refine Mw.p rfl rfl (fun _ => R.ix (α := Commit) cl ck rfl rfl rfl) ?_
      obtain ⟨x187, c188, _, r189⟩ := (cl.at_ ck).cells
      obtain ⟨g2, g4, rfl, r191, r193⟩ := Commit.split r189
      refine Mw.q rfl rfl (fun _ c => R.lda (zhM (cl.at_ ck).1 rfl c188 c) rfl rfl) (Mw.t rfl rfl (T.alloc 16 (cs := [.slice none 0 0, vS ([] : Str), .slice none 0 0]) rfl) ?_)
      rintro _ _ ⟨S, ko, rfl, rfl, C, g5⟩
      have U := C.o
      refine m0 C fun kp => Mw.lu rfl (T.sta (vs := [g2, vS F.Who, g4]) g5 rfl rfl (zaa r191.oc (zaa rfl (zaa r193.oc zaR))) rfl rfl) ?_
      rintro _ _ ⟨g6, rfl, G, eg⟩
      have V := G.s
      have eh := ((gr.up E).up C).up G
      have ei := ((gs.up E).up C).up G
      have ej := ((ec.up E).up C).up G
      have ek := ((ed.up E).up C).up G
      refine Mw.nil (ssr (fl eg rfl (Lw.ln F.Parents (r191.ul (U.trans V)) rfl (Lw.gt rfl (nl (cn hm (fun hm => ?_) fun hm => ?_))))))
      ·exact Cw.exit ((ag) ⟨ak, am, an, O, P, ptr (bx S), cd, ce, ao, ap, b, k, g6, rfl, ((E.j C).j G).w, rfl, eh, ei, ej, (r139.ul ((Q.trans U).trans V)), (r142.ul ((Q.trans U).trans V)), ek, hm⟩)
      ·refine sk (Cw.seq ?_)
       obtain ⟨af, el, hm⟩ := ob hm
       obtain ⟨aq, g7, hm⟩ := ob hm
       obtain ⟨y, em, hm⟩ := ob hm
       obtain ⟨ar, en, hm⟩ := ob hm
       obtain ⟨a, g8, hm⟩ := ob hm
       refine Cw.par [[], [], [], [2], [], [], [], [5, 6], [5, 6, 7], [4, 5, 6, 7, 8], [], [10], [], [], [12, 13], [12, 13, 14], [10, 11, 12, 13, 14, 15], [10, 11, 12, 13, 14, 15, 16], [10, 11, 12, 13, 14, 15, 16, 17], [0, 1, 2, 3, 4, 5, 6, 7, 8, 9, 10, 11, 12, 13, 14, 15, 16, 17, 18], [0, 1, 2, 3, 4, 5, 6, 7, 8, 9, 10, 11, 12, 13, 14, 15, 16, 17, 18, 19], [0, 1, 2, 3, 4, 5, 6, 7, 8, 9, 10, 11, 12, 13, 14, 15, 16, 17, 18, 19, 20], [0, 1, 2, 3, 4, 5, 6, 7, 8, 9, 10, 11, 12, 13, 14, 15, 16, 17, 18, 19, 20], [], [0, 1, 2, 3, 4, 5, 6, 7, 8, 9, 10, 11, 12, 13, 14, 15, 16, 17, 18, 19, 20, 21, 23], [0, 1, 2, 3, 4, 5, 6, 7, 8, 9, 10, 11, 12, 13, 14, 15, 16, 17, 18, 19, 20, 21, 22, 23, 24]] [[], [], [], [2], [], [], [], [5, 6], [7], [4, 8], [], [10], [], [], [12, 13], [14], [11, 15], [16], [17], [0, 1, 3, 9, 18], [19], [19, 20], [19, 20], [], [19, 21, 23], [22]] [[], [], [], [], [], [], [], [], [], [], [], [], [], [], [], [], [], [], [], [], [], [], [], [], [17], []] [[0], [1], [2], [3], [4], [5], [6], [7], [8], [9], [10], [11], [12], [13], [14], [15], [16], [17], [18], [19], [19, 20], [19, 21], [22], [23], [19, 23], [25]] [[], [], [], [], [], [], [], [], [], [0], [], [], [], [], [], [], [], [], [0], [0], [], [], [], [17], [17], []] [0, 1, 2, 3, 4, 5, 6, 7, 8, 9, 10, 11, 12, 13, 14, 15, 16, 17, 18, 19, 20, 21, 22, 24, 25] [17] [fun vs W => (vs 0) = .agg [b, k].toArray, fun vs W => (vs 1) = vS x1, fun vs W => (vs 2) = ptr ((bx S).add 1), fun vs W => (vs 3) = vS F.Who, fun vs W => (vs 4) = .agg [b, k].toArray, fun vs W => (vs 5) = i, fun vs W => (vs 6) = vI f, fun vs W => (vs 7) = ptr ((slA i).add ((f).toNat * Rp.sz (Int))), fun vs W => (vs 8) = vI af, fun vs W => Rd W [0] [(vs 9)] aq, fun vs W => (vs 10) = ptr ((bx J).add 0), fun vs W => (vs 11) = b, fun vs W => (vs 12) = i, fun vs W => (vs 13) = vI f, fun vs W => (vs 14) = ptr ((slA i).add ((f).toNat * Rp.sz (Int))), fun vs W => (vs 15) = vI y, fun vs W => (vs 16) = ptr ((slA b).add ((y).toNat * Rp.sz (Commit))), fun vs W => (vs 17) = ptr (((slA b).add ((y).toNat * Rp.sz (Commit))).add 2), fun vs W => Rd W [0] [(vs 18)] ar.Tree, fun vs W => (vs 19) = .tuple [.agg [(zaq (zaq (vs 19) 0) 0), (zaq (zaq (vs 19) 0) 1)].toArray, vI a.2].toArray ∧ Rd W [0] [(zaq (zaq (vs 19) 0) 0)] a.1.Commits ∧ Rd W [0] [(zaq (zaq (vs 19) 0) 1)] a.1.Heads, fun vs W => (vs 20) = .tuple [.agg [(zaq (zaq (vs 19) 0) 0), (zaq (zaq (vs 19) 0) 1)].toArray, vI a.2].toArray, fun vs W => (vs 21) = .agg [(zaq (zaq (vs 19) 0) 0), (zaq (zaq (vs 19) 0) 1)].toArray, fun vs W => (vs 22) = vI a.2, fun vs W => (vs 23) = ptr (bx (pg (vs 23))) ∧ Bx W 17 (pg (vs 23)) [.slice none 0 0, .slice none 0 0], fun vs W => (vs 23) = ptr (bx (pg (vs 23))) ∧ Bx W 17 (pg (vs 23)) [(zaq (zaq (vs 19) 0) 0), (zaq (zaq (vs 19) 0) 1)], fun vs W => (vs 25) = vI a.2] [] mixed (by kernel_rfl) rfl zq4.nil ?_
       intro kq H
       have au := H.o
       have bl := ((bk.up C).up G).up H
       have bm := ek.up H
       refine ⟨(zaN.cons ?_ (zaN.cons ?_ (zaN.cons ?_ (zaN.cons ?_ (zaN.cons ?_ (zaN.cons ?_ (zaN.cons ?_ (zaN.cons ?_ (zaN.cons ?_ (zaN.cons ?_ (zaN.cons ?_ (zaN.cons ?_ (zaN.cons ?_ (zaN.cons ?_ (zaN.cons ?_ (zaN.cons ?_ (zaN.cons ?_ (zaN.cons ?_ (zaN.cons ?_ (zaN.cons ?_ (zaN.cons ?_ (zaN.cons ?_ (zaN.cons ?_ (zaN.cons ?_ (zaN.cons ?_ (zaN.cons ?_ zaN.nil)))))))))))))))))))))))))), (zdd.cons (fun vs vs' W W' _ hv l hd h => by (show (vs' 0) = .agg [b, k].toArray); rw [hv 0 (zat rfl)]; exact h) (zdd.cons (fun vs vs' W W' _ hv l hd h => by (show (vs' 1) = vS x1); rw [hv 1 (zat rfl)]; exact h) (zdd.cons (fun vs vs' W W' _ hv l hd h => by (show (vs' 2) = ptr ((bx S).add 1)); rw [hv 2 (zat rfl)]; exact h) (zdd.cons (fun vs vs' W W' _ hv l hd h => by (show (vs' 3) = vS F.Who); rw [hv 3 (zat rfl)]; exact h) (zdd.cons (fun vs vs' W W' _ hv l hd h => by (show (vs' 4) = .agg [b, k].toArray); rw [hv 4 (zat rfl)]; exact h) (zdd.cons (fun vs vs' W W' _ hv l hd h => by (show (vs' 5) = i); rw [hv 5 (zat rfl)]; exact h) (zdd.cons (fun vs vs' W W' _ hv l hd h => by (show (vs' 6) = vI f); rw [hv 6 (zat rfl)]; exact h) (zdd.cons (fun vs vs' W W' _ hv l hd h => by (show (vs' 7) = ptr ((slA i).add ((f).toNat * Rp.sz (Int)))); rw [hv 7 (zat rfl)]; exact h) (zdd.cons (fun vs vs' W W' _ hv l hd h => by (show (vs' 8) = vI af); rw [hv 8 (zat rfl)]; exact h) (zdd.cons (fun vs vs' W W' _ hv l hd h => by (show Rd W' [0] [(vs' 9)] aq); rw [hv 9 (zat rfl)]; exact h.up l (zkz hd (K := [0]) rfl)) (zdd.cons (fun vs vs' W W' _ hv l hd h => by (show (vs' 10) = ptr ((bx J).add 0)); rw [hv 10 (zat rfl)]; exact h) (zdd.cons (fun vs vs' W W' _ hv l hd h => by (show (vs' 11) = b); rw [hv 11 (zat rfl)]; exact h) (zdd.cons (fun vs vs' W W' _ hv l hd h => by (show (vs' 12) = i); rw [hv 12 (zat rfl)]; exact h) (zdd.cons (fun vs vs' W W' _ hv l hd h => by (show (vs' 13) = vI f); rw [hv 13 (zat rfl)]; exact h) (zdd.cons (fun vs vs' W W' _ hv l hd h => by (show (vs' 14) = ptr ((slA i).add ((f).toNat * Rp.sz (Int)))); rw [hv 14 (zat rfl)]; exact h) (zdd.cons (fun vs vs' W W' _ hv l hd h => by (show (vs' 15) = vI y); rw [hv 15 (zat rfl)]; exact h) (zdd.cons (fun vs vs' W W' _ hv l hd h => by (show (vs' 16) = ptr ((slA b).add ((y).toNat * Rp.sz (Commit)))); rw [hv 16 (zat rfl)]; exact h) (zdd.cons (fun vs vs' W W' _ hv l hd h => by (show (vs' 17) = ptr (((slA b).add ((y).toNat * Rp.sz (Commit))).add 2)); rw [hv 17 (zat rfl)]; exact h) (zdd.cons (fun vs vs' W W' _ hv l hd h => by (show Rd W' [0] [(vs' 18)] ar.Tree); rw [hv 18 (zat rfl)]; exact h.up l (zkz hd (K := [0]) rfl)) (zdd.cons (fun vs vs' W W' _ hv l hd h => by (show (vs' 19) = .tuple [.agg [(zaq (zaq (vs' 19) 0) 0), (zaq (zaq (vs' 19) 0) 1)].toArray, vI a.2].toArray ∧ Rd W' [0] [(zaq (zaq (vs' 19) 0) 0)] a.1.Commits ∧ Rd W' [0] [(zaq (zaq (vs' 19) 0) 1)] a.1.Heads); rw [hv 19 (zat rfl)]; exact ⟨h.1, h.2.1.up l (zkz hd (K := [0]) rfl), h.2.2.up l (zkz hd (K := [0]) rfl)⟩) (zdd.cons (fun vs vs' W W' _ hv l hd h => by (show (vs' 20) = .tuple [.agg [(zaq (zaq (vs' 19) 0) 0), (zaq (zaq (vs' 19) 0) 1)].toArray, vI a.2].toArray); rw [hv 19 (zat rfl), hv 20 (zat rfl)]; exact h) (zdd.cons (fun vs vs' W W' _ hv l hd h => by (show (vs' 21) = .agg [(zaq (zaq (vs' 19) 0) 0), (zaq (zaq (vs' 19) 0) 1)].toArray); rw [hv 19 (zat rfl), hv 21 (zat rfl)]; exact h) (zdd.cons (fun vs vs' W W' _ hv l hd h => by (show (vs' 22) = vI a.2); rw [hv 22 (zat rfl)]; exact h) (zdd.cons (fun vs vs' W W' _ hv l hd h => by (show (vs' 23) = ptr (bx (pg (vs' 23))) ∧ Bx W' 17 (pg (vs' 23)) [.slice none 0 0, .slice none 0 0]); rw [hv 23 (zat rfl)]; exact ⟨h.1, h.2.up l (zbJ hd (c := 17) rfl)⟩) (zdd.cons (fun vs vs' W W' _ hv l hd h => by (show (vs' 23) = ptr (bx (pg (vs' 23))) ∧ Bx W' 17 (pg (vs' 23)) [(zaq (zaq (vs' 19) 0) 0), (zaq (zaq (vs' 19) 0) 1)]); rw [hv 19 (zat rfl), hv 23 (zat rfl)]; exact ⟨h.1, h.2.up l (zbJ hd (c := 17) rfl)⟩) (zdd.cons (fun vs vs' W W' _ hv l hd h => by (show (vs' 25) = vI a.2); rw [hv 25 (zat rfl)]; exact h) zdd.nil)))))))))))))))))))))))))), ?_⟩
       ·intro vs W lW hN hV
        obtain ⟨g9, ha⟩ : ∃ X, X = W := ⟨W, rfl⟩
        subst ha
        refine Tr.mono (Run.tr (R.lda (cs := [b, k]) (bm.up lW rfl).cells rfl rfl)) ?_
        rintro _ _ ⟨hu, rfl⟩
        obtain rfl := hu.symm
        exact ⟨g9, rfl, Le.refl _ _, (show (.agg [b, k].toArray : Value) = .agg [b, k].toArray from rfl)⟩
       ·intro vs W lW hN hV
        obtain ⟨hb, hc⟩ : ∃ X, X = W := ⟨W, rfl⟩
        subst hc
        refine Tr.mono (Run.tr (R.mv (v := vS x1) rfl)) ?_
        rintro _ _ ⟨hu, rfl⟩
        obtain rfl := hu.symm
        exact ⟨hb, rfl, Le.refl _ _, (show (vS x1 : Value) = vS x1 from rfl)⟩
       ·intro vs W lW hN hV
        obtain ⟨he, hf⟩ : ∃ X, X = W := ⟨W, rfl⟩
        subst hf
        refine Tr.mono (Run.tr (R.fa rfl)) ?_
        rintro _ _ ⟨hu, rfl⟩
        obtain rfl := hu.symm
        exact ⟨he, rfl, Le.refl _ _, (show (ptr ((bx S).add 1) : Value) = ptr ((bx S).add 1) from rfl)⟩
       ·intro vs W lW hN hV
        obtain ⟨hg, hh⟩ : ∃ X, X = W := ⟨W, rfl⟩
        subst hh
        have cm : vs 2 = ptr ((bx S).add 1) := (hN 2 (zat rfl))
        obtain ⟨vs, rfl⟩ := zao cm
        refine Tr.mono (Run.tr (R.ld (v := vS F.Who) rfl rfl (((eg.up H).up lW rfl).cell rfl))) ?_
        rintro _ _ ⟨hu, rfl⟩
        obtain rfl := hu.symm
        exact ⟨hg, rfl, Le.refl _ _, (show (vS F.Who : Value) = vS F.Who from rfl)⟩
       ·intro vs W lW hN hV
        obtain ⟨hi, hj⟩ : ∃ X, X = W := ⟨W, rfl⟩
        subst hj
        refine Tr.mono (Run.tr (R.lda (cs := [b, k]) (bm.up lW rfl).cells rfl rfl)) ?_
        rintro _ _ ⟨hu, rfl⟩
        obtain rfl := hu.symm
        exact ⟨hi, rfl, Le.refl _ _, (show (.agg [b, k].toArray : Value) = .agg [b, k].toArray from rfl)⟩
       ·intro vs W lW hN hV
        obtain ⟨hk, hl⟩ : ∃ X, X = W := ⟨W, rfl⟩
        subst hl
        refine Tr.mono (Run.tr (R.mv (v := i) rfl)) ?_
        rintro _ _ ⟨hu, rfl⟩
        obtain rfl := hu.symm
        exact ⟨hk, rfl, Le.refl _ _, (show (i : Value) = i from rfl)⟩
       ·intro vs W lW hN hV
        obtain ⟨hn, ho⟩ : ∃ X, X = W := ⟨W, rfl⟩
        subst ho
        refine Tr.mono (Run.tr (R.mv (v := vI f) rfl)) ?_
        rintro _ _ ⟨hu, rfl⟩
        obtain rfl := hu.symm
        exact ⟨hn, rfl, Le.refl _ _, (show (vI f : Value) = vI f from rfl)⟩
       ·intro vs W lW hN hV
        obtain ⟨hp, hq⟩ : ∃ X, X = W := ⟨W, rfl⟩
        subst hq
        have co : vs 5 = i := (hN 5 (zat rfl))
        obtain ⟨vs, rfl⟩ := zao co
        have cp : vs 6 = vI f := (hN 6 (zat rfl))
        obtain ⟨vs, rfl⟩ := zao cp
        refine Tr.mono (Run.tr (R.ix (α := Int) (bl.up lW rfl).rd el rfl rfl rfl)) ?_
        rintro _ _ ⟨hu, rfl⟩
        obtain rfl := hu.symm
        exact ⟨hp, rfl, Le.refl _ _, (show (ptr ((slA i).add ((f).toNat * Rp.sz (Int))) : Value) = ptr ((slA i).add ((f).toNat * Rp.sz (Int))) from rfl)⟩
       ·intro vs W lW hN hV
        obtain ⟨hr, hs⟩ : ∃ X, X = W := ⟨W, rfl⟩
        subst hs
        have cq : vs 7 = ptr ((slA i).add ((f).toNat * Rp.sz (Int))) := (hN 7 (zat rfl))
        obtain ⟨vs, rfl⟩ := zao cq
        refine Tr.mono (Run.tr (R.ld rfl rfl ((bl.up lW rfl).rd.at_ el).int)) ?_
        rintro _ _ ⟨hu, rfl⟩
        obtain rfl := hu.symm
        exact ⟨hr, rfl, Le.refl _ _, (show (vI af : Value) = vI af from rfl)⟩
       ·intro vs W lW hN hV
        obtain ⟨kr, ht⟩ : ∃ X, X = W := ⟨W, rfl⟩
        subst ht
        have eo := (((Q.trans U).trans V).trans au).t lW rfl
        have ct : vs 4 = .agg [b, k].toArray := (hN 4 (zat rfl))
        obtain ⟨vs, rfl⟩ := zao ct
        have cu : vs 8 = vI af := (hN 8 (zat rfl))
        obtain ⟨vs, rfl⟩ := zao cu
        refine Tr.mono (T.call rfl (p62  (x0 := (Vm.Repo.mk O P)) (Repo.rd (K := [0]) O P (r139.ul eo) (r142.ul eo)) g7)) ?_
        rintro hw _ ⟨ep, rfl, hx, ⟨_, rfl, hy⟩⟩
        have hz := hy.sub (M := [0]) rfl
        exact ⟨ep, rfl, hx, (show Rd ep [0] [hw] aq from hz)⟩
       ·intro vs W lW hN hV
        obtain ⟨h1, h2⟩ : ∃ X, X = W := ⟨W, rfl⟩
        subst h2
        refine Tr.mono (Run.tr (R.fa rfl)) ?_
        rintro _ _ ⟨hu, rfl⟩
        obtain rfl := hu.symm
        exact ⟨h1, rfl, Le.refl _ _, (show (ptr ((bx J).add 0) : Value) = ptr ((bx J).add 0) from rfl)⟩
       ·intro vs W lW hN hV
        obtain ⟨h3, h4⟩ : ∃ X, X = W := ⟨W, rfl⟩
        subst h4
        have cv : vs 10 = ptr ((bx J).add 0) := (hN 10 (zat rfl))
        obtain ⟨vs, rfl⟩ := zao cv
        refine Tr.mono (Run.tr (R.ld (v := b) rfl rfl ((bm.up lW rfl).cell rfl))) ?_
        rintro _ _ ⟨hu, rfl⟩
        obtain rfl := hu.symm
        exact ⟨h3, rfl, Le.refl _ _, (show (b : Value) = b from rfl)⟩
       ·intro vs W lW hN hV
        obtain ⟨h5, h6⟩ : ∃ X, X = W := ⟨W, rfl⟩
        subst h6
        refine Tr.mono (Run.tr (R.mv (v := i) rfl)) ?_
        rintro _ _ ⟨hu, rfl⟩
        obtain rfl := hu.symm
        exact ⟨h5, rfl, Le.refl _ _, (show (i : Value) = i from rfl)⟩
       ·intro vs W lW hN hV
        obtain ⟨h7, h8⟩ : ∃ X, X = W := ⟨W, rfl⟩
        subst h8
        refine Tr.mono (Run.tr (R.mv (v := vI f) rfl)) ?_
        rintro _ _ ⟨hu, rfl⟩
        obtain rfl := hu.symm
        exact ⟨h7, rfl, Le.refl _ _, (show (vI f : Value) = vI f from rfl)⟩
       ·intro vs W lW hN hV
        obtain ⟨h9, ia⟩ : ∃ X, X = W := ⟨W, rfl⟩
        subst ia
        have cw : vs 12 = i := (hN 12 (zat rfl))
        obtain ⟨vs, rfl⟩ := zao cw
        have cx : vs 13 = vI f := (hN 13 (zat rfl))
        obtain ⟨vs, rfl⟩ := zao cx
        refine Tr.mono (Run.tr (R.ix (α := Int) (bl.up lW rfl).rd em rfl rfl rfl)) ?_
        rintro _ _ ⟨hu, rfl⟩
        obtain rfl := hu.symm
        exact ⟨h9, rfl, Le.refl _ _, (show (ptr ((slA i).add ((f).toNat * Rp.sz (Int))) : Value) = ptr ((slA i).add ((f).toNat * Rp.sz (Int))) from rfl)⟩
       ·intro vs W lW hN hV
        obtain ⟨ib, ic⟩ : ∃ X, X = W := ⟨W, rfl⟩
        subst ic
        have cy : vs 14 = ptr ((slA i).add ((f).toNat * Rp.sz (Int))) := (hN 14 (zat rfl))
        obtain ⟨vs, rfl⟩ := zao cy
        refine Tr.mono (Run.tr (R.ld rfl rfl ((bl.up lW rfl).rd.at_ em).int)) ?_
        rintro _ _ ⟨hu, rfl⟩
        obtain rfl := hu.symm
        exact ⟨ib, rfl, Le.refl _ _, (show (vI y : Value) = vI y from rfl)⟩
       ·intro vs W lW hN hV
        obtain ⟨id, ie⟩ : ∃ X, X = W := ⟨W, rfl⟩
        subst ie
        have ig := (((Q.trans U).trans V).trans au).t lW rfl
        have cz : vs 11 = b := (hN 11 (zat rfl))
        obtain ⟨vs, rfl⟩ := zao cz
        have c0 : vs 15 = vI y := (hN 15 (zat rfl))
        obtain ⟨vs, rfl⟩ := zao c0
        refine Tr.mono (Run.tr (R.ix (α := Commit) (r139.ul ig) en rfl rfl rfl)) ?_
        rintro _ _ ⟨hu, rfl⟩
        obtain rfl := hu.symm
        exact ⟨id, rfl, Le.refl _ _, (show (ptr ((slA b).add ((y).toNat * Rp.sz (Commit))) : Value) = ptr ((slA b).add ((y).toNat * Rp.sz (Commit))) from rfl)⟩
       ·intro vs W lW hN hV
        obtain ⟨ih, ii⟩ : ∃ X, X = W := ⟨W, rfl⟩
        subst ii
        have c1 : vs 16 = ptr ((slA b).add ((y).toNat * Rp.sz (Commit))) := (hN 16 (zat rfl))
        obtain ⟨vs, rfl⟩ := zao c1
        refine Tr.mono (Run.tr (R.fa rfl)) ?_
        rintro _ _ ⟨hu, rfl⟩
        obtain rfl := hu.symm
        exact ⟨ih, rfl, Le.refl _ _, (show (ptr (((slA b).add ((y).toNat * Rp.sz (Commit))).add 2) : Value) = ptr (((slA b).add ((y).toNat * Rp.sz (Commit))).add 2) from rfl)⟩
       ·intro vs W lW hN hV
        obtain ⟨er, ij⟩ : ∃ X, X = W := ⟨W, rfl⟩
        subst ij
        have ik := (((Q.trans U).trans V).trans au).t lW rfl
        have c2 : vs 17 = ptr (((slA b).add ((y).toNat * Rp.sz (Commit))).add 2) := (hN 17 (zat rfl))
        obtain ⟨vs, rfl⟩ := zao c2
        obtain ⟨il, c474, r475⟩ := (Commit.at2 ((r139.ul ik).at_ en)).cell rfl
        refine Tr.mono (Run.tr (R.ld rfl rfl c474)) ?_
        rintro _ _ ⟨hu, rfl⟩
        obtain rfl := hu.symm
        exact ⟨er, rfl, Le.refl _ _, (show Rd er [0] [il] ar.Tree from r475)⟩
       ·intro vs W lW hN hV
        obtain ⟨es, im⟩ : ∃ X, X = W := ⟨W, rfl⟩
        subst im
        have et := (((Q.trans U).trans V).trans au).t lW rfl
        have c3 : vs 0 = .agg [b, k].toArray := (hN 0 (zat rfl))
        obtain ⟨vs, rfl⟩ := zao c3
        have c4 : vs 1 = vS x1 := (hN 1 (zat rfl))
        obtain ⟨vs, rfl⟩ := zao c4
        have c5 : vs 3 = vS F.Who := (hN 3 (zat rfl))
        obtain ⟨vs, rfl⟩ := zao c5
        obtain ⟨c6, c7⟩ : ∃ v, vs 9 = v := ⟨_, rfl⟩
        obtain ⟨vs, rfl⟩ := zao c7
        have io : Rd es [0] [c6] aq := (hN 9 (zat rfl))
        obtain ⟨c8, c9⟩ : ∃ v, vs 18 = v := ⟨_, rfl⟩
        obtain ⟨vs, rfl⟩ := zao c9
        have ip : Rd es [0] [c8] ar.Tree := (hN 18 (zat rfl))
        refine Tr.mono (T.call rfl (p61  (x0 := (Vm.Repo.mk O P)) (Repo.rd (K := [0]) O P (r139.ul et) (r142.ul et)) io ip g8)) ?_
        rintro _ _ ⟨da, rfl, iq, ⟨db, dc, rfl, ir, it⟩⟩
        have iu := ir.sub (M := [0]) rfl
        have iv := it.sub (M := [0]) rfl
        exact ⟨da, rfl, iq, (show (.tuple [.agg [db, dc].toArray, vI a.2].toArray : Value) = .tuple [.agg [db, dc].toArray, vI a.2].toArray ∧ Rd da [0] [db] a.1.Commits ∧ Rd da [0] [dc] a.1.Heads from ⟨rfl, iu, iv⟩)⟩
       ·intro vs W lW hN hV
        obtain ⟨dd, iw⟩ : ∃ X, X = W := ⟨W, rfl⟩
        subst iw
        obtain ⟨d, e, I⟩ : ∃ d e : Value, vs 19 = .tuple [.agg [d, e].toArray, vI a.2].toArray := ⟨_, _, (hN 19 (zat rfl)).1⟩
        obtain ⟨vs, rfl⟩ := zao I
        have ks : Rd dd [0] [d] a.1.Commits := (hN 19 (zat rfl)).2.1
        have kt : Rd dd [0] [e] a.1.Heads := (hN 19 (zat rfl)).2.2
        refine Tr.mono (Run.tr (R.mv (v := .tuple [.agg [d, e].toArray, vI a.2].toArray) rfl)) ?_
        rintro _ _ ⟨hu, rfl⟩
        obtain rfl := hu.symm
        exact ⟨dd, rfl, Le.refl _ _, (show (.tuple [.agg [d, e].toArray, vI a.2].toArray : Value) = .tuple [.agg [d, e].toArray, vI a.2].toArray from rfl)⟩
       ·intro vs W lW hN hV
        obtain ⟨de, iy⟩ : ∃ X, X = W := ⟨W, rfl⟩
        subst iy
        obtain ⟨d, e, I⟩ : ∃ d e : Value, vs 19 = .tuple [.agg [d, e].toArray, vI a.2].toArray := ⟨_, _, (hN 19 (zat rfl)).1⟩
        obtain ⟨vs, rfl⟩ := zao I
        have ku : Rd de [0] [d] a.1.Commits := (hN 19 (zat rfl)).2.1
        have kv : Rd de [0] [e] a.1.Heads := (hN 19 (zat rfl)).2.2
        have av : vs 20 = .tuple [.agg [d, e].toArray, vI a.2].toArray := (hN 20 (zat rfl))
        obtain ⟨vs, rfl⟩ := zao av
        refine Tr.mono (Run.tr (R.ext (vs := [.agg [d, e].toArray, vI a.2]) (v := .agg [d, e].toArray) rfl rfl)) ?_
        rintro _ _ ⟨hu, rfl⟩
        obtain rfl := hu.symm
        exact ⟨de, rfl, Le.refl _ _, (show (.agg [d, e].toArray : Value) = .agg [d, e].toArray from rfl)⟩
       ·intro vs W lW hN hV
        obtain ⟨df, iz⟩ : ∃ X, X = W := ⟨W, rfl⟩
        subst iz
        obtain ⟨d, e, I⟩ : ∃ d e : Value, vs 19 = .tuple [.agg [d, e].toArray, vI a.2].toArray := ⟨_, _, (hN 19 (zat rfl)).1⟩
        obtain ⟨vs, rfl⟩ := zao I
        have kw : Rd df [0] [d] a.1.Commits := (hN 19 (zat rfl)).2.1
        have kx : Rd df [0] [e] a.1.Heads := (hN 19 (zat rfl)).2.2
        have av : vs 20 = .tuple [.agg [d, e].toArray, vI a.2].toArray := (hN 20 (zat rfl))
        obtain ⟨vs, rfl⟩ := zao av
        refine Tr.mono (Run.tr (R.ext (vs := [.agg [d, e].toArray, vI a.2]) (v := vI a.2) rfl rfl)) ?_
        rintro _ _ ⟨hu, rfl⟩
        obtain rfl := hu.symm
        exact ⟨df, rfl, Le.refl _ _, (show (vI a.2 : Value) = vI a.2 from rfl)⟩
       ·intro vs W lW hN hV
        obtain ⟨ky, i0⟩ : ∃ X, X = W := ⟨W, rfl⟩
        subst i0
        refine Tr.mono (T.alloc 17 (cs := [.slice none 0 0, .slice none 0 0]) rfl) ?_
        rintro _ _ ⟨dg, eu, rfl, rfl, i1, i2⟩
        exact ⟨eu, rfl, i1, (show (ptr (bx dg) : Value) = ptr (bx dg) ∧ Bx eu 17 dg [.slice none 0 0, .slice none 0 0] from ⟨rfl, i2⟩)⟩
       ·intro vs W lW hN hV
        obtain ⟨dh, i3⟩ : ∃ X, X = W := ⟨W, rfl⟩
        subst i3
        obtain ⟨d, e, I⟩ : ∃ d e : Value, vs 19 = .tuple [.agg [d, e].toArray, vI a.2].toArray := ⟨_, _, (hN 19 (zat rfl)).1⟩
        obtain ⟨vs, rfl⟩ := zao I
        have i4 : Rd dh [0] [d] a.1.Commits := (hN 19 (zat rfl)).2.1
        have i5 : Rd dh [0] [e] a.1.Heads := (hN 19 (zat rfl)).2.2
        have di : vs 21 = .agg [d, e].toArray := (hN 21 (zat rfl))
        obtain ⟨vs, rfl⟩ := zao di
        obtain ⟨z, dj⟩ : ∃ z, vs 23 = ptr (bx z) := ⟨_, ((hN 23 (zat rfl))).1⟩
        obtain ⟨vs, rfl⟩ := zao dj
        have i6 : Bx dh 17 z [.slice none 0 0, .slice none 0 0] := (hN 23 (zat rfl)).2
        refine Tr.mono (T.sta (vs := [d, e]) i6 rfl rfl (zaa i4.oc (zaa i5.oc zaR)) rfl rfl) ?_
        rintro _ _ ⟨ew, rfl, i7, i8⟩
        exact ⟨ew, rfl, i7, (show (ptr (bx z)) = ptr (bx z) ∧ Bx ew 17 z [d, e] from ⟨rfl, i8⟩)⟩
       ·intro vs W lW hN hV
        obtain ⟨i9, ja⟩ : ∃ X, X = W := ⟨W, rfl⟩
        subst ja
        have dk : vs 22 = vI a.2 := (hN 22 (zat rfl))
        obtain ⟨vs, rfl⟩ := zao dk
        refine Tr.mono (Run.tr (R.as (v := vI a.2) rfl)) ?_
        rintro _ _ ⟨hu, rfl⟩
        obtain rfl := hu.symm
        exact ⟨i9, rfl, Le.refl _ _, (show (vI a.2 : Value) = vI a.2 from rfl)⟩
       ·intro vs W lW hN
        obtain ⟨aw, jb⟩ : ∃ X, X = W := ⟨W, rfl⟩
        subst jb
        have dl := ((((cf.trans Q).trans U).trans V).trans au).t lW rfl
        have ex := (ej.up H).up lW rfl
        obtain ⟨jc, hl581⟩ : ∃ x, x = lW := ⟨lW, rfl⟩
        have c3 : vs 0 = .agg [b, k].toArray := (hN 0 (zat rfl))
        obtain ⟨vs, rfl⟩ := zao c3
        have c4 : vs 1 = vS x1 := (hN 1 (zat rfl))
        obtain ⟨vs, rfl⟩ := zao c4
        have cm : vs 2 = ptr ((bx S).add 1) := (hN 2 (zat rfl))
        obtain ⟨vs, rfl⟩ := zao cm
        have c5 : vs 3 = vS F.Who := (hN 3 (zat rfl))
        obtain ⟨vs, rfl⟩ := zao c5
        have ct : vs 4 = .agg [b, k].toArray := (hN 4 (zat rfl))
        obtain ⟨vs, rfl⟩ := zao ct
        have co : vs 5 = i := (hN 5 (zat rfl))
        obtain ⟨vs, rfl⟩ := zao co
        have cp : vs 6 = vI f := (hN 6 (zat rfl))
        obtain ⟨vs, rfl⟩ := zao cp
        have cq : vs 7 = ptr ((slA i).add ((f).toNat * Rp.sz (Int))) := (hN 7 (zat rfl))
        obtain ⟨vs, rfl⟩ := zao cq
        have cu : vs 8 = vI af := (hN 8 (zat rfl))
        obtain ⟨vs, rfl⟩ := zao cu
        obtain ⟨c6, c7⟩ : ∃ v, vs 9 = v := ⟨_, rfl⟩
        obtain ⟨vs, rfl⟩ := zao c7
        have kz : Rd aw [0] [c6] aq := (hN 9 (zat rfl))
        have cv : vs 10 = ptr ((bx J).add 0) := (hN 10 (zat rfl))
        obtain ⟨vs, rfl⟩ := zao cv
        have cz : vs 11 = b := (hN 11 (zat rfl))
        obtain ⟨vs, rfl⟩ := zao cz
        have cw : vs 12 = i := (hN 12 (zat rfl))
        obtain ⟨vs, rfl⟩ := zao cw
        have cx : vs 13 = vI f := (hN 13 (zat rfl))
        obtain ⟨vs, rfl⟩ := zao cx
        have cy : vs 14 = ptr ((slA i).add ((f).toNat * Rp.sz (Int))) := (hN 14 (zat rfl))
        obtain ⟨vs, rfl⟩ := zao cy
        have c0 : vs 15 = vI y := (hN 15 (zat rfl))
        obtain ⟨vs, rfl⟩ := zao c0
        have c1 : vs 16 = ptr ((slA b).add ((y).toNat * Rp.sz (Commit))) := (hN 16 (zat rfl))
        obtain ⟨vs, rfl⟩ := zao c1
        have c2 : vs 17 = ptr (((slA b).add ((y).toNat * Rp.sz (Commit))).add 2) := (hN 17 (zat rfl))
        obtain ⟨vs, rfl⟩ := zao c2
        obtain ⟨c8, c9⟩ : ∃ v, vs 18 = v := ⟨_, rfl⟩
        obtain ⟨vs, rfl⟩ := zao c9
        have k2 : Rd aw [0] [c8] ar.Tree := (hN 18 (zat rfl))
        obtain ⟨d, e, I⟩ : ∃ d e : Value, vs 19 = .tuple [.agg [d, e].toArray, vI a.2].toArray := ⟨_, _, (hN 19 (zat rfl)).1⟩
        obtain ⟨vs, rfl⟩ := zao I
        have ey : Rd aw [0] [d] a.1.Commits := (hN 19 (zat rfl)).2.1
        have ez : Rd aw [0] [e] a.1.Heads := (hN 19 (zat rfl)).2.2
        have av : vs 20 = .tuple [.agg [d, e].toArray, vI a.2].toArray := (hN 20 (zat rfl))
        obtain ⟨vs, rfl⟩ := zao av
        have di : vs 21 = .agg [d, e].toArray := (hN 21 (zat rfl))
        obtain ⟨vs, rfl⟩ := zao di
        have dk : vs 22 = vI a.2 := (hN 22 (zat rfl))
        obtain ⟨vs, rfl⟩ := zao dk
        obtain ⟨z, dj⟩ : ∃ z, vs 23 = ptr (bx z) := ⟨_, (hN 24 (zat rfl)).1⟩
        obtain ⟨vs, rfl⟩ := zao dj
        have jd : Bx aw 17 z [d, e] := (hN 24 (zat rfl)).2
        have je : vs 25 = vI a.2 := (hN 25 (zat rfl))
        obtain ⟨vs, rfl⟩ := zao je
        refine ssr (mi rfl (Lw.ne rfl (nl (cn hm (fun hm => ?_) fun hm => ?_))))
        ·refine sr (la ((((ef.up C).up G).up H).up lW rfl) (cr hm (fun _ => p58 (k0 := 18) (k1 := 19) (Repo.rd (K := [0]) x0.Commits x0.Heads (D.ul dl) (Y.ul dl))) ?_))
         rintro e0 _ k3 hm e1 ⟨e2, e3, rfl, e4, e5⟩
         have jf := dl.n e1
         refine mi rfl (sta (ex.up e1) (zaa e4.oc (zaa e5.oc zaR)) fun k4 dm jg => ?_)
         have jh := jf.t dm
         refine Ni rfl ?_
         obtain ⟨ji, jj, dn, jk⟩ := zp4 _ 18
         have jl : Rd (α := List Vm.Commit) ji [0] [e2] e0.Commits := by rw [jk]; exact ((e4.up dm).rd.dye 18).sub (M := [0]) rfl
         have jm := jh.t dn
         obtain ⟨jo, jp, e6, jq⟩ := zp4 _ 19
         have jr : Rd (α := List Vm.Head) jo [0] [e3] e0.Heads := by rw [jq]; exact (((e5.up dm).up dn).rd.dye 19).sub (M := [0]) rfl
         have e7 := e6.s
         cases hm
         rw [← jp.trans (jj)]
         exact Cw.ret (zjH rfl ((jg.up dn).up e6) rfl (Res.mk (jm.trans e7) ⟨e2, e3, rfl, (jl.ul e7), jr⟩))
        ·refine sk (rg (Lw.r rfl (R.lda (cs := [d, e]) jd.cells rfl rfl) (sta (bm.up lW rfl) (zaa ey.oc (zaa ez.oc zaR)) fun js ax jt => ?_)))
         have e8 := ax.s
         exact nl ((ag) ⟨ak, am, an, a.1.Commits, a.1.Heads, ptr (bx S), ptr (bx z), vI a.2, ao, ap, d, e, js, rfl, (((((E.j C).j G).j H).j jc).j ax).w, rfl, (((eh.up H).up lW rfl).up ax), (((ei.up H).up lW rfl).up ax), (ex.up ax), (ey.ul e8), (ez.ul e8), jt, hm⟩)
    ·refine Cw.exit ?_
     rw [go] at hm
     refine sr (la ed (sta ec (zaa r139.oc (zaa r142.oc zaR)) fun k5 ju jv => ?_))
     have dp := ju.s
     refine Ni rfl ?_
     cases hm
     exact Cw.ret (zjH rfl jv rfl (Res.mk (cf.trans dp) ⟨b, k, rfl, (r139.ul dp), (r142.ul dp)⟩))
  ·refine rg (la a1 (ms rfl (ca hm (fun _ => p56 (Repo.rd (K := [0]) x0.Commits x0.Heads (D.ul ah) (Y.ul ah))) fun k6 jw hm bn => ?_)))
   have jx := ah.n bn
   refine Lw.lt rfl (mb rfl (bs hm (fun ay hm => ?_) fun ay hm => ?_))
   ·exact psk 7 ay rfl (Pb ay rfl (nl ((ag) ⟨true, jw, rfl, bn, rfl, hm⟩)))
   ·exact wak 7 ay (mi rfl (fl (a1.up bn) rfl (Lw.ln x0.Commits (D.ul jx) rfl (Lw.sub rfl (ca hm (fun _ => p57) fun jy jz hm j0 => Lw.r rfl (R.not rfl) (Pb ay rfl (nl ((ag) ⟨(!jy), jz, rfl, (bn.j j0).w, rfl, hm⟩))))))))
theorem p12 {x0 d f x1 x2 r} (h : Rd W K [d, f] x0) (hm : Vm.zfx x0 x1 x2 = some r) : Q1 12 [.agg [d, f].toArray, vS x1, vI x2] W [] fun W' v => ∃ a b, v = .tuple [.agg [a, b].toArray, vI r.2].toArray ∧ Rd W' (0 :: K) [a] r.1.Commits ∧ Rd W' (0 :: K) [b] r.1.Heads :=
 (c12 (h.view _) hm).ad (fk 0) fun _ _ ⟨a, b, e, i, k⟩ => ⟨a, b, e, i.back rfl, k.back rfl⟩
theorem c88 {x0 k r} (x : Rd W0 [0] [k] x0) (hm : Vm.zcE x0 = some r) : Q0 88 [k] W0 fun Wf v => ∃ C, v = C ∧ OwS Wf LL [] [C] r := by
 unfold Vm.zcE at hm
 refine zaj.of Tryz.func88 rfl rfl rfl rfl (sr (Nv (.slice none 0 0) rfl (sr (Nv (.slice none 0 0) rfl (ssr (mv k rfl (Lw.ln x0 x rfl (mi rfl (nl (Cw.block ?_))))))))))
 obtain ⟨N, O, hm⟩ := zaS hm
 refine Cw.loop 8 21 [3, 5, 8] (fun m l w => ∃ y e a D f, CW.w f = w ∧ Le [2, 3, 4] W0 f ∧ l = [a, D, vI e] ∧ Ow f 2 [] [a] y ∧ Vm.zcL x0 N m y e = some r) _ ⟨([] : List File), 0, .slice none 0 0, undef, W0, rfl, Le.refl _ _, rfl, owN 2 [], hm⟩ ?_
 rintro (_ | m8) _ _ σ ⟨y, e, a, D, f, rfl, E, rfl, F, hm⟩
 ·cases hm
 unfold Vm.zcL at hm
 have z := E.s
 refine sr (Lw.lt rfl (nl (Cw.seq (cn hm (fun hm => ?_) fun hm => ?_))))
 ·refine sk (Cw.seq (Cw.block (sr ?_)))
  obtain ⟨b, G, hm⟩ := ob hm
  refine Lw.r rfl (R.ix (α := File) (x.ul z) G rfl rfl rfl) ?_
  obtain ⟨x14, c15, _, r16⟩ := ((x.ul z).at_ G).cells
  obtain ⟨ai, rfl, r18⟩ := File.split r16
  refine Lw.r rfl (R.lda c15 rfl rfl) (al 3 [vS ([] : Str), .slice none 0 0] fun P aj A Q => ?_)
  have S := A.o
  refine sta Q (zaa rfl (zaa r18.oc zaR)) fun ak B H => ?_
  have U := S.t B
  refine nl (Cw.draw [2, 4] [(0, 0), (1, 0), (2, 1), (3, 0), (4, 1), (5, 2), (6, 0), (7, 2), (8, 2), (9, 0)] mixed (by kernel_rfl) fun am d => ?_)
  have V := U.n d
  refine Dv a rfl (Dfl (H.up d) rfl rfl rfl (Dfl (H.up d) rfl rfl rfl (Dc hm (Le.refl _ _) (fun _ => p144 (k0 := 4) (r18.ul V)) rfl ?_)))
  rintro W h an hm I ⟨_, rfl, K⟩ X
  refine Mw.p rfl rfl (fun _ => R.bd (zs := [vS ([] : Str), .slice none 0 0]) (cs := [vS b.Path, h]) [(0, vS b.Path), (1, h)] rfl rfl rfl (zaD rfl rfl (zaD K.oc rfl zdN))) (Mw.t rfl rfl (T.bs 5 [.agg [vS b.Path, h].toArray] (cs := [vS b.Path, h]) rfl rfl (bsA rfl)) ?_)
  rintro _ _ ⟨ao, ap, rfl, rfl, i, Y⟩
  refine mc X i fun Z => ?_
  obtain ⟨aa, ac, hm⟩ := ob hm
  refine Mw.t rfl rfl (T.app1 (α := File) (J := [4]) (K' := []) (((((F.up A).up B).up d).up I).up i) Y (File.own b.Path W (K.up i).s) rfl rfl ac) ?_
  rintro L _ ⟨ae, rfl, M, af⟩
  exact mc Z M fun aq => Hv L rfl (Mw.nil (rg (Lw.add rfl (mi rfl (nl ((agm) ⟨aa, w64 (e + 1), L, ptr (bx P), ae, rfl, ((((((E.j A).j B).j d).j I).j i).j M).w, rfl, af, hm⟩))))))
 ·refine Cw.exit ?_
  rw [O] at hm
  refine sr (mv a rfl (Nv a rfl ?_))
  cases hm
  exact Cw.ret (zhB rfl (Res.mk z ⟨a, rfl, F.s.sub rfl rfl⟩))
theorem p88 {x0 b k0 r} (d : Rd W K [b] x0) (hm : Vm.zcE x0 = some r) : Q1 88 [b] W [] fun W' v => ∃ a, v = a ∧ Ow W' k0 [] [a] r :=
 (c88 (d.view _) hm).ad (fk k0) fun _ _ ⟨a, e, f⟩ => ⟨a, e, f.back (zfR _)⟩
theorem c67 {x0 Z aa r} (h0 : Rd W0 [0] [Z, aa] x0) (hm : Vm.zbc x0 = some r) : Q0 67 [.agg [Z, aa].toArray] W0 fun Wf v => ∃ ac ae, v = .agg [ac, ae].toArray ∧ OwS Wf [31] [] [ac] r.Commits ∧ OwS Wf [32] [] [ae] r.Heads := by
 unfold Vm.zbc at hm
 obtain ⟨cl, cm, af, H, az⟩ := Repo.split h0
 simp only [List.cons.injEq, and_true, true_and] at af
 obtain ⟨rfl, rfl⟩ := af
 refine zaj.of Tryz.func67 rfl rfl rfl rfl (sr (bo 2 rfl fun g1 W1 l1 b1 => ?_))
 have a2 := l1.o
 refine al 3 [.slice none 0 0, .slice none 0 0] fun g3 W3 l3 b3 => ?_
 have a4 := a2.n l3
 refine nl (sr (Lw.t rfl (T.lit0 (α := Head) 4 []) ?_))
 rintro v6 _ ⟨W6, rfl, I, o6⟩
 have a7 := a4.n I
 have b8 := (b1.up l3).up I
 refine fl b8 rfl ?_
 obtain ⟨a9, ba, hm⟩ := ob hm
 refine Lw.t rfl (T.appP (α := Head) o6 (az.ul a7) rfl rfl ba) ?_
 rintro K _ ⟨cw, rfl, L, M⟩
 have bb := a7.t L
 refine Lw.r rfl (R.bd (zs := [.slice none 0 0, .slice none 0 0]) (cs := [.slice none 0 0, K]) [(1, K)] rfl rfl rfl (zaD M.oc rfl zdN)) (al 5 [.slice none 0 0, .slice none 0 0] fun bc cx i be => ?_)
 have bg := bb.n i
 refine sta be (zaa rfl (zaa (M.up i).oc zaR)) fun ak A bh => ?_
 have am := bg.t A
 refine nl (ssr (fl (((b8.up L).up i).up A) rfl (Lw.ln x0.Commits (H.ul am) rfl (mi rfl (nl (Cw.block ?_))))))
 obtain ⟨bi, bj, hm⟩ := zaS hm
 refine Cw.loop 14 33 [5, 14] (fun m l w => ∃ B N C an D k b, CW.w b = w ∧ Le [5, 6, 7, 8, 9] ak b ∧ l = [an, vI B] ∧ Ow b 6 [] [D] N ∧ Ow b 4 [] [k] C ∧ Bx b 5 bc [D, k] ∧ Vm.zcM x0 bi m B N C = some r) _ ⟨0, ([] : List Commit), a9, undef, .slice none 0 0, K, ak, rfl, Le.refl _ _, rfl, owN 6 [], ((M.up i).up A), bh, hm⟩ ?_
 rintro (_ | cy) _ _ σ ⟨B, N, C, an, D, k, b, rfl, O, rfl, P, Q, ao, hm⟩
 ·cases hm
 unfold Vm.zcM at hm
 have S := am.t O
 refine sr (Lw.lt rfl (nl (Cw.seq (cn hm (fun hm => ?_) fun hm => ?_))))
 ·refine sk (Cw.seq (Cw.block (sr ?_)))
  obtain ⟨x, ap, hm⟩ := ob hm
  refine Lw.r rfl (R.ix (α := Commit) (H.ul S) ap rfl rfl rfl) ?_
  obtain ⟨x47, c48, _, r49⟩ := ((H.ul S).at_ ap).cells
  obtain ⟨cz, c0, rfl, r51, r53⟩ := Commit.split r49
  refine Lw.r rfl (R.lda c48 rfl rfl) (al 7 [.slice none 0 0, vS ([] : Str), .slice none 0 0] fun bk c1 y bl => ?_)
  have bm := y.o
  refine sta bl (zaa r51.oc (zaa rfl (zaa r53.oc zaR))) fun c2 z bn => ?_
  have bp := bm.t z
  refine nl (Cw.draw [6, 8, 9] [(0, 0), (1, 1), (3, 0), (4, 1), (6, 0), (7, 1), (8, 0), (9, 1), (2, 2), (5, 2), (10, 2), (11, 0), (12, 2), (13, 2), (14, 0), (15, 3)] mixed (by kernel_rfl) fun c3 d => ?_)
  have bq := bp.n d
  have aq := ((ao.up y).up z).up d
  have U := bn.up d
  refine Dfl aq rfl rfl rfl (Dfl U rfl rfl rfl (Dfl U rfl rfl rfl (Dfl U rfl rfl rfl (Mw.t rfl rfl (T.lit0 (α := Int) 8 []) ?_))))
  rintro c4 _ ⟨c5, rfl, e, br⟩
  have ar := bq.n e
  refine m0 e fun bu => ?_
  obtain ⟨bv, bw, hm⟩ := ob hm
  refine Mw.t rfl rfl (T.appP (α := Int) br (r51.ul ar) rfl rfl bw) ?_
  rintro E _ ⟨c6, rfl, f, au⟩
  have bz := ar.t f
  refine mc bu f fun b0 => Dc hm b0 (fun _ => p88 (k0 := 9) (r53.ul bz)) rfl ?_
  rintro b2 F c7 hm h ⟨_, rfl, av⟩ b4
  refine Mw.p rfl rfl (fun _ => R.bd (zs := [.slice none 0 0, vS ([] : Str), .slice none 0 0]) (cs := [E, vS x.Who, F]) [(0, E), (1, vS x.Who), (2, F)] rfl rfl rfl (zaD (au.up h).oc rfl (zaD rfl rfl (zaD av.oc rfl zdN)))) (Mw.t rfl rfl (T.bs 10 [.agg [E, vS x.Who, F].toArray] (cs := [E, vS x.Who, F]) rfl rfl (bsA rfl)) ?_)
  rintro _ _ ⟨c8, c9, rfl, rfl, a, b5⟩
  refine mc b4 a fun b6 => ?_
  obtain ⟨b7, b9, hm⟩ := ob hm
  refine Mw.t rfl rfl (T.app1 (α := Commit) (J := [8, 9]) (K' := []) (((((((P.up y).up z).up d).up e).up f).up h).up a) b5 (Commit.own bv x.Who b2 ((au.up h).up a).s (av.up a).s) rfl rfl b9) ?_
  rintro aw _ ⟨da, rfl, G, ax⟩
  refine mc b6 G fun db => Df rfl (Mw.lu rfl (T.st (j := 0) (v := aw) (((((aq.up e).up f).up h).up a).up G) rfl rfl ax.oc rfl rfl) ?_)
  rintro _ _ ⟨cb, rfl, V, cc⟩
  exact Mw.nil (rg (Lw.add rfl (mi rfl (nl ((agm) ⟨w64 (B + 1), b7, C, ptr (bx bk), aw, k, cb, rfl, (((((((((O.j y).j z).j d).j e).j f).j h).j a).j G).j V).w, rfl, (ax.up V), (((((((((Q.up y).up z).up d).up e).up f).up h).up a).up G).up V), cc, hm⟩)))))
 ·refine Cw.exit ?_
  rw [bj] at hm
  refine sr (la ao (sta (((((b3.up I).up L).up i).up A).up O) (zaa P.oc (zaa Q.oc zaR)) fun dc W cd => ?_))
  have ce := S.t W
  refine nl ?_
  obtain ⟨dd, cf, X, cg⟩ := (P.up W).dyeO 31
  have ch := ce.t X
  obtain ⟨de, ci, Y, cj⟩ := ((Q.up W).up X).dyeO 32
  have ck := ch.t Y
  cases hm
  rw [← ci.trans (cf)]
  exact Cw.ret (zlH rfl ((cd.up X).up Y) (Res.mk ck ⟨D, k, rfl, (cg.up Y).s, cj.s⟩))
theorem p67 {x0 d f k0 k1 r} (h : Rd W K [d, f] x0) (hm : Vm.zbc x0 = some r) : Q1 67 [.agg [d, f].toArray] W [] fun W' v => ∃ a b, v = .agg [a, b].toArray ∧ Ow W' k0 [] [a] r.Commits ∧ Ow W' k1 [] [b] r.Heads :=
 zaj.adJ (J := []) (fun c => bif Nat.beq c 0 then 0 else bif Nat.beq c 31 then k0 else bif Nat.beq c 32 then k1 else 0) (c67 (h.view _) hm) fun _ _ ⟨a, b, e, i, k⟩ => ⟨a, b, e, i.one1.backN rfl, k.one1.backN rfl⟩
theorem c126 {x0 d x1 r} (i : Rd W0 [0] [d] x0) (h1 : Rd W0 [0] [vS x1.Name, vI x1.At] x1) (hm : Vm.zeq x0 x1 = some r) : Q0 126 [d, .agg [vS x1.Name, vI x1.At].toArray] W0 fun Wf v => ∃ P, v = P ∧ OwS Wf LL [] [P] r := by
 unfold Vm.zeq at hm
 refine zaj.of Tryz.func126 rfl rfl rfl rfl (sr (bo 2 rfl fun g1 Q l1 S => ?_))
 have U := l1.o
 refine Nv (.slice none 0 0) rfl (sr (mv d rfl (Lw.ln x0 (i.ul U) rfl (Ni rfl (Cw.seq (Cw.block ?_))))))
 obtain ⟨K6, ao, hm⟩ := zaS hm
 refine Cw.loop 8 22 [5] (fun m l w => ∃ b y, CW.w y = w ∧ Le [] Q y ∧ l = [vI b] ∧ Vm.zc2 x0 x1 K6 m b = some r) _ ⟨(x0.length : Int), Q, rfl, Le.refl _ _, rfl, hm⟩ ?_
 rintro (_ | m7) _ _ σ ⟨b, y, rfl, z, rfl, hm⟩
 ·cases hm
 unfold Vm.zc2 at hm
 have V := U.n z
 refine Cw.seq ?_
 obtain ⟨ap, aq, hm⟩ := zaS hm
 refine Cw.join 8 20 [20] (fun l w => ∃ E A, CW.w A = w ∧ Le [] y A ∧ l = [vB E] ∧ ap E = some r) ?_ ?_
 ·rintro _ _ σ ⟨E, A, rfl, F, rfl, hm⟩
  rw [aq] at hm
  have ar := V.n F
  refine cn hm (fun hm => ?_) fun hm => ?_
  ·exact sk (Cw.block (rg (mi rfl (Lw.sub rfl (Ni rfl ((agm) ⟨w64 (b - 1), A, rfl, (z.j F).w, rfl, hm⟩))))))
  ·refine Cw.exit ?_
   rw [ao] at hm
   refine Cw.seq ?_
   obtain ⟨B, au, hm⟩ := ob hm
   obtain ⟨k, av, hm⟩ := ob hm
   refine Cw.par [[], [], [0, 1], [], [], [4], [0, 1, 2, 3, 4, 5], [0, 1, 2, 3, 4, 5, 6]] [[], [], [0, 1], [], [], [4], [2, 3, 5], [6]] [[], [], [3], [], [], [], [3], []] [[0], [1], [2], [3], [4], [5], [6], [6, 7]] [[3], [], [3], [], [], [4], [5], []] [1, 3, 4, 5, 6, 7] [3] [fun vs W => Ow W 3 [] [(vs 0)] ([] : List Head), fun vs W => (vs 1) = d, fun vs W => Ow W 3 [] [(vs 2)] B, fun vs W => (vs 3) = vI b, fun vs W => (vs 4) = .agg [vS x1.Name, vI x1.At].toArray, fun vs W => (vs 5) = .slice (some (bx (pg (vs 5)))) 1 1 ∧ Bx W 4 (pg (vs 5)) [vS x1.Name, vI x1.At], fun vs W => Ow W 5 [] [(vs 6)] k, fun vs W => (vs 7) = (vs 6)] [] mixed (by kernel_rfl) rfl zq4.nil ?_
   intro b8 Y
   have Z := ar.n Y
   refine ⟨(zaN.cons ?_ (zaN.cons ?_ (zaN.cons ?_ (zaN.cons ?_ (zaN.cons ?_ (zaN.cons ?_ (zaN.cons ?_ (zaN.cons ?_ zaN.nil)))))))), (zdd.cons (fun vs vs' W W' _ hv l hd h => by (show Ow W' 3 [] [(vs' 0)] ([] : List Head)); rw [hv 0 (zat rfl)]; exact h.upv l (zbJ hd (c := 3) rfl)) (zdd.cons (fun vs vs' W W' _ hv l hd h => by (show (vs' 1) = d); rw [hv 1 (zat rfl)]; exact h) (zdd.cons (fun vs vs' W W' _ hv l hd h => by (show Ow W' 3 [] [(vs' 2)] B); rw [hv 2 (zat rfl)]; exact h.upv l (zbJ hd (c := 3) rfl)) (zdd.cons (fun vs vs' W W' _ hv l hd h => by (show (vs' 3) = vI b); rw [hv 3 (zat rfl)]; exact h) (zdd.cons (fun vs vs' W W' _ hv l hd h => by (show (vs' 4) = .agg [vS x1.Name, vI x1.At].toArray); rw [hv 4 (zat rfl)]; exact h) (zdd.cons (fun vs vs' W W' _ hv l hd h => by (show (vs' 5) = .slice (some (bx (pg (vs' 5)))) 1 1 ∧ Bx W' 4 (pg (vs' 5)) [vS x1.Name, vI x1.At]); rw [hv 5 (zat rfl)]; exact ⟨h.1, h.2.up l (zbJ hd (c := 4) rfl)⟩) (zdd.cons (fun vs vs' W W' _ hv l hd h => by (show Ow W' 5 [] [(vs' 6)] k); rw [hv 6 (zat rfl)]; exact h.upv l (zbJ hd (c := 5) rfl)) (zdd.cons (fun vs vs' W W' _ hv l hd h => by (show (vs' 7) = (vs' 6)); rw [hv 6 (zat rfl), hv 7 (zat rfl)]; exact h) zdd.nil)))))))), ?_⟩
   ·intro vs W lW hN hV
    obtain ⟨b9, aw⟩ : ∃ X, X = W := ⟨W, rfl⟩
    subst aw
    refine Tr.mono (T.lit0 (α := Head) 3 []) ?_
    rintro ax _ ⟨aa, rfl, ay, az⟩
    exact ⟨aa, rfl, ay, (show Ow aa 3 [] [ax] ([] : List Head) from az)⟩
   ·intro vs W lW hN hV
    obtain ⟨a0, a1⟩ : ∃ X, X = W := ⟨W, rfl⟩
    subst a1
    refine Tr.mono (Run.tr (R.mv (v := d) rfl)) ?_
    rintro _ _ ⟨hu, rfl⟩
    obtain rfl := hu.symm
    exact ⟨a0, rfl, Le.refl _ _, (show (d : Value) = d from rfl)⟩
   ·intro vs W lW hN hV
    obtain ⟨a3, a4⟩ : ∃ X, X = W := ⟨W, rfl⟩
    subst a4
    have a5 := Z.t lW rfl
    obtain ⟨a6, a7⟩ : ∃ v, vs 0 = v := ⟨_, rfl⟩
    obtain ⟨vs, rfl⟩ := zao a7
    have a9 : Ow a3 3 [] [a6] ([] : List Head) := (hN 0 (zat rfl))
    have G : vs 1 = d := (hN 1 (zat rfl))
    obtain ⟨vs, rfl⟩ := zao G
    refine Tr.mono (T.appP (α := Head) a9 (i.ul a5) rfl rfl au) ?_
    rintro ba _ ⟨ac, rfl, bb, bc⟩
    exact ⟨ac, rfl, bb, (show Ow ac 3 [] [ba] B from bc)⟩
   ·intro vs W lW hN hV
    obtain ⟨be, bg⟩ : ∃ X, X = W := ⟨W, rfl⟩
    subst bg
    refine Tr.mono (Run.tr (R.mv (v := vI b) rfl)) ?_
    rintro _ _ ⟨hu, rfl⟩
    obtain rfl := hu.symm
    exact ⟨be, rfl, Le.refl _ _, (show (vI b : Value) = vI b from rfl)⟩
   ·intro vs W lW hN hV
    obtain ⟨bh, bi⟩ : ∃ X, X = W := ⟨W, rfl⟩
    subst bi
    refine Tr.mono (Run.tr (R.lda (cs := [vS x1.Name, vI x1.At]) ((((S.up z).up F).up Y).up lW rfl).cells rfl rfl)) ?_
    rintro _ _ ⟨hu, rfl⟩
    obtain rfl := hu.symm
    exact ⟨bh, rfl, Le.refl _ _, (show (.agg [vS x1.Name, vI x1.At].toArray : Value) = .agg [vS x1.Name, vI x1.At].toArray from rfl)⟩
   ·intro vs W lW hN hV
    obtain ⟨cb, bj⟩ : ∃ X, X = W := ⟨W, rfl⟩
    subst bj
    have H : vs 4 = .agg [vS x1.Name, vI x1.At].toArray := (hN 4 (zat rfl))
    obtain ⟨vs, rfl⟩ := zao H
    refine Tr.mono (T.bs 4 [.agg [vS x1.Name, vI x1.At].toArray] (cs := [vS x1.Name, vI x1.At]) rfl rfl (bsA rfl)) ?_
    rintro _ _ ⟨I, ae, rfl, rfl, bk, bl⟩
    exact ⟨ae, rfl, bk, (show (.slice (some (bx I)) 1 1 : Value) = .slice (some (bx I)) 1 1 ∧ Bx ae 4 I [vS x1.Name, vI x1.At] from ⟨rfl, bl⟩)⟩
   ·intro vs W lW hN hV
    obtain ⟨af, bm⟩ : ∃ X, X = W := ⟨W, rfl⟩
    subst bm
    obtain ⟨bn, bp⟩ : ∃ v, vs 2 = v := ⟨_, rfl⟩
    obtain ⟨vs, rfl⟩ := zao bp
    have bq : Ow af 3 [] [bn] B := (hN 2 (zat rfl))
    have J : vs 3 = vI b := (hN 3 (zat rfl))
    obtain ⟨vs, rfl⟩ := zao J
    obtain ⟨f, L⟩ : ∃ f, vs 5 = .slice (some (bx f)) 1 1 := ⟨_, ((hN 5 (zat rfl))).1⟩
    obtain ⟨vs, rfl⟩ := zao L
    have br : Bx af 4 f [vS x1.Name, vI x1.At] := (hN 5 (zat rfl)).2
    refine Tr.mono (T.call rfl (p170 (k0 := 5) (c0 := 3) bq br (Head.rd (K := [0]) x1.Name x1.At ) rfl rfl av)) ?_
    rintro bu _ ⟨ah, rfl, bv, ⟨_, rfl, bw⟩⟩
    exact ⟨ah, rfl, bv, (show Ow ah 5 [] [bu] k from bw)⟩
   ·intro vs W lW hN hV
    obtain ⟨ai, bz⟩ : ∃ X, X = W := ⟨W, rfl⟩
    subst bz
    obtain ⟨e, M⟩ : ∃ v, vs 6 = v := ⟨_, rfl⟩
    obtain ⟨vs, rfl⟩ := zao M
    have cc : Ow ai 5 [] [e] k := (hN 6 (zat rfl))
    refine Tr.mono (Run.tr (R.as (v := e) rfl)) ?_
    rintro _ _ ⟨hu, rfl⟩
    obtain rfl := hu.symm
    exact ⟨ai, rfl, Le.refl _ _, (show (e : Value) = e from rfl)⟩
   ·intro vs W lW hN
    obtain ⟨aj, b0⟩ : ∃ X, X = W := ⟨W, rfl⟩
    subst b0
    have b2 := Z.t lW rfl
    obtain ⟨cd, hl83⟩ : ∃ x, x = lW := ⟨lW, rfl⟩
    have G : vs 1 = d := (hN 1 (zat rfl))
    obtain ⟨vs, rfl⟩ := zao G
    have J : vs 3 = vI b := (hN 3 (zat rfl))
    obtain ⟨vs, rfl⟩ := zao J
    have H : vs 4 = .agg [vS x1.Name, vI x1.At].toArray := (hN 4 (zat rfl))
    obtain ⟨vs, rfl⟩ := zao H
    obtain ⟨f, L⟩ : ∃ f, vs 5 = .slice (some (bx f)) 1 1 := ⟨_, ((hN 5 (zat rfl))).1⟩
    obtain ⟨vs, rfl⟩ := zao L
    have ce : Bx aj 4 f [vS x1.Name, vI x1.At] := (hN 5 (zat rfl)).2
    obtain ⟨e, M⟩ : ∃ v, vs 6 = v := ⟨_, rfl⟩
    obtain ⟨vs, rfl⟩ := zao M
    have b3 : Ow aj 5 [] [e] k := (hN 6 (zat rfl))
    have b4 : vs 7 = e := (hN 7 (zat rfl))
    obtain ⟨vs, rfl⟩ := zao b4
    cases hm
    exact Cw.ret (zhB rfl (Res.mk b2 ⟨e, rfl, b3.s.sub rfl rfl⟩))
 ·refine Cw.draw [] [(0, 0), (1, 0), (2, 0), (3, 0), (4, 0), (5, 0), (6, 0), (7, 0), (8, 1), (9, 0), (10, 1), (11, 0), (12, 0)] mixed (by kernel_rfl) fun ak C => ?_
  have N := V.n C
  refine Di rfl (Mw.p rfl rfl (fun _ => R.gt rfl rfl) (Db rfl (bs hm (fun a hm => ?_) fun a hm => ?_)))
  ·refine Wp a rfl (fun _ => R.mv (v := d) rfl) (Wp a rfl (fun _ => R.mv (v := vI b) rfl) (Wp a rfl (fun _ => R.sub rfl rfl) ?_))
   obtain ⟨D, O, hm⟩ := ob hm
   exact Wp a rfl (fun _ => R.ix (α := Head) (i.ul N) O rfl rfl rfl) (Wp a rfl (fun _ => R.fa rfl) (Wq a rfl (fun _ c => R.ld rfl rfl (zah (Head.at0 ((i.ul N).at_ O)).1 rfl (Head.at0 ((i.ul N).at_ O)).str c)) (Wp a rfl (fun _ => R.fa rfl) (Wq a rfl (fun _ c => R.ld (v := vS x1.Name) rfl rfl (((S.up z).up C).clc rfl rfl c)) (Wp a rfl (fun _ => R.sgt rfl rfl) (Mw.p rfl rfl (fun _ => R.pk a rfl (v := vB (!(Op.bytesLess D.Name x1.Name || D.Name == x1.Name))) rfl) (Mw.nil ((ag) ⟨(!(Op.bytesLess D.Name x1.Name || D.Name == x1.Name)), ak, rfl, C, rfl, hm⟩))))))))
  ·exact dps 9 a rfl (Mw.p rfl rfl (fun _ => R.pk a rfl (v := vB false) rfl) (Mw.nil ((ag) ⟨false, ak, rfl, C, rfl, hm⟩)))
theorem p126 {x0 b x1 k0 r} (d : Rd W K [b] x0) (f : Rd W K [vS x1.Name, vI x1.At] x1) (hm : Vm.zeq x0 x1 = some r) : Q1 126 [b, .agg [vS x1.Name, vI x1.At].toArray] W [] fun W' v => ∃ a, v = a ∧ Ow W' k0 [] [a] r :=
 (c126 (d.view _) (f.view _) hm).ad (fk k0) fun _ _ ⟨a, e, h⟩ => ⟨a, e, h.back (zfR _)⟩
end Go.Sx
