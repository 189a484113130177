/- Walks: each function answers as its model, printed by a program of ours. Conditions: the arguments read as they are given. -/
import Derived.Test.YtbimgeocngkboaaGreatDoorATs
import Derived.Test.YtbimgeocngkboaaGreatDoorAM2
import Derived.Test.YtbimgeocngkboaaGreatDoorAW0
import Derived.Test.YtbimgeocngkboaaGreatDoorAW3
import Derived.Test.YtbimgeocngkboaaGreatDoorAW4
import Derived.Test.YtbimgeocngkboaaGreatDoorAW5
import Derived.Test.YtbimgeocngkboaaGreatDoorAW6
import Derived.Test.YtbimgeocngkboaaGreatDoorAW8
namespace Go.Sx
open Go Go.Proofs Go.Vm Rp
set_option linter.unusedVariables false
set_option linter.unusedSimpArgs false
variable {W W0 : CW} {K : List Nat}
theorem c28 {x0 e f x1 x2 x3 r} (h0 : Rd W0 [0] [e, f] x0) (co : Gl 0 W0 [0]) (hm : Vm.impl_Repo_unite x0 x1 x2 x3 = some r) : Q0 28 [.agg [e, f].toArray, vS x1, vS x2, vI x3] W0 fun Wf v => ∃ cp cq, v = .tuple [.agg [cp, cq].toArray, vI r.2].toArray ∧ OwS Wf [31] [] [cp] r.1.Commits ∧ OwS Wf [32] [] [cq] r.1.Heads := by
 unfold Vm.impl_Repo_unite at hm
 obtain ⟨ij, ik, ct, k, y⟩ := Repo.split h0
 simp only [List.cons.injEq, and_true, true_and] at ct
 obtain ⟨rfl, rfl⟩ := ct
 refine CallR.of Tryz.func28 rfl rfl rfl rfl (sr (bo 2 rfl fun g1 W1 l1 b1 => ?_))
 have a2 := l1.o
 refine al 3 [.slice none 0 0, .slice none 0 0] fun g3 W3 l3 b3 => ?_
 have a4 := a2.n l3
 refine Ni rfl (sr (la (b1.up l3) (ms rfl (ca hm (fun _ => p54 (Repo.rd (K := [0]) x0.Commits x0.Heads (k.ul a4) (y.ul a4))) fun z cv hm l10 => ?_))))
 have cw := a4.n l10
 have cx := (b1.up l3).up l10
 refine Ni rfl (Cw.seq ?_)
 obtain ⟨dz, d0, hm⟩ := jn_e hm
 refine Cw.join 17 29 [29] (fun l w => ∃ ao ap, CW.w ap = w ∧ Le [] cv ap ∧ l = [vB ao] ∧ dz ao = some r) ?_ ?_
 ·rintro _ _ σ ⟨ao, ap, rfl, aq, rfl, hm⟩
  rw [d0] at hm
  have E := cw.n aq
  have ar := cx.up aq
  have au := (b3.up l10).up aq
  refine cn hm (fun hm => ?_) fun hm => ?_
  ·refine sr (la ar (cr hm (fun _ => p56 (k0 := 4) (k1 := 5) (Repo.rd (K := [0]) x0.Commits x0.Heads (k.ul E) (y.ul E))) ?_))
   rintro iq _ ir hm cy ⟨d1, d2, rfl, cz, c3⟩
   have d3 := E.n cy
   refine sta (au.up cy) (oc_cons cz.oc (oc_cons c3.oc oc_nil)) fun it av d4 => ?_
   have d5 := d3.t av
   refine Ni rfl ?_
   obtain ⟨iu, d6, aw, d7⟩ := (cz.up av).dyeO 31
   have d8 := d5.t aw
   obtain ⟨iv, d9, ax, ea⟩ := ((c3.up av).up aw).dyeO 32
   have eb := d8.t ax
   cases hm
   rw [← d9.trans (d6)]
   exact Cw.ret (retA2 rfl ((d4.up aw).up ax) rfl (Res.mk eb ⟨d1, d2, rfl, (d7.up ax).s, ea.s⟩))
  ·refine sk (Cw.seq (Cw.block (sr (la ar (mi rfl (cr hm (fun _ => p57 (k0 := 6) (Repo.rd (K := [0]) x0.Commits x0.Heads (k.ul E) (y.ul E))) ?_))))))
   rintro iw iy iz hm P ⟨_, rfl, c4⟩
   have F := E.n P
   have Q := ar.up P
   refine mi rfl ?_
   obtain ⟨i0, c5, hm⟩ := ob hm
   refine Lw.r rfl (R.ix (α := Bool) c4.rd c5 rfl rfl rfl) (Lw.r rfl (R.ld rfl rfl (c4.rd.at_ c5).bool) (Nb rfl (cn hm (fun hm => ?_) fun hm => ?_)))
   ·refine sr (la Q (cr hm (fun _ => p56 (k0 := 7) (k1 := 8) (Repo.rd (K := [0]) x0.Commits x0.Heads (k.ul F) (y.ul F))) ?_))
    rintro i1 _ i2 hm c6 ⟨ec, ed, rfl, c7, c8⟩
    have ee := F.n c6
    refine sta ((au.up P).up c6) (oc_cons c7.oc (oc_cons c8.oc oc_nil)) fun i3 ay ef => ?_
    have eg := ee.t ay
    refine Ni rfl ?_
    obtain ⟨i4, eh, az, ei⟩ := (c7.up ay).dyeO 31
    have ej := eg.t az
    obtain ⟨i5, ek, a0, el⟩ := ((c8.up ay).up az).dyeO 32
    have em := ej.t a0
    cases hm
    rw [← ek.trans (eh)]
    exact Cw.ret (retA2 rfl ((ef.up az).up a0) rfl (Res.mk em ⟨ec, ed, rfl, (ei.up a0).s, el.s⟩))
   ·refine sr (la Q (mi rfl (cr hm (fun _ => p57 (k0 := 9) (Repo.rd (K := [0]) x0.Commits x0.Heads (k.ul F) (y.ul F))) ?_)))
    rintro i6 i7 i8 hm S ⟨_, rfl, c9⟩
    have U := F.n S
    have da := (au.up P).up S
    refine mi rfl ?_
    obtain ⟨i9, db, hm⟩ := ob hm
    refine Lw.r rfl (R.ix (α := Bool) c9.rd db rfl rfl rfl) (Lw.r rfl (R.ld rfl rfl (c9.rd.at_ db).bool) (Nb rfl (cn hm (fun hm => ?_) fun hm => ?_)))
    ·refine sr (la (Q.up S) (cr hm (fun _ => p56 (k0 := 10) (k1 := 11) (Repo.rd (K := [0]) x0.Commits x0.Heads (k.ul U) (y.ul U))) ?_))
     rintro dc _ ja hm dd ⟨jb, jc, rfl, en, eo⟩
     have ep := U.n dd
     refine ms rfl (mi rfl (cr hm (fun _ => p58 (K := [0]) (k0 := 12) (k1 := 13) (c0 := 10) (c1 := 11) (x0 := (Vm.Repo.mk dc.Commits dc.Heads)) en eo rfl) ?_))
     rintro jd _ je hm de ⟨er, es, rfl, df, dg⟩
     have et := ep.t de
     refine sta ((da.up dd).up de) (oc_cons df.oc (oc_cons dg.oc oc_nil)) fun jf a1 eu => ?_
     have ew := et.t a1
     refine Ni rfl ?_
     obtain ⟨jg, ex, a3, ey⟩ := (df.up a1).dyeO 31
     have ez := ew.t a3
     obtain ⟨jh, e0, a5, e1⟩ := ((dg.up a1).up a3).dyeO 32
     have e2 := ez.t a5
     cases hm
     rw [← e0.trans (ex)]
     exact Cw.ret (retA2 rfl ((eu.up a3).up a5) rfl (Res.mk e2 ⟨er, es, rfl, (ey.up a5).s, e1.s⟩))
    ·refine sk (Cw.seq (Cw.draw [] [(0, 1), (1, 0), (2, 0), (4, 1), (5, 0), (7, 1), (8, 0), (3, 2), (6, 2), (9, 2), (10, 2), (11, 0), (12, 0), (13, 0), (14, 0), (15, 0)] mixed (by kernel_rfl) fun ji a6 => ?_))
     have a7 := U.n a6
     have V := (Q.up S).up a6
     refine Mw.q rfl rfl (fun _ c => R.lda (cs := [e, f]) (V.clcs rfl c) rfl rfl) (Di rfl (Di rfl (Mw.q rfl rfl (fun _ c => R.lda (cs := [e, f]) (V.clcs rfl c) rfl rfl) (Di rfl (Mw.q rfl rfl (fun _ c => R.lda (cs := [e, f]) (V.clcs rfl c) rfl rfl) (Di rfl ?_))))))
     obtain ⟨jj, e3, hm⟩ := ob hm
     refine Mw.t rfl rfl (T.call rfl (p60  (Repo.rd (K := [0]) x0.Commits x0.Heads (k.ul a7) (y.ul a7)) e3)) ?_
     rintro jk _ ⟨jl, rfl, Y, ⟨_, rfl, e4⟩⟩
     have e5 := e4.sub (M := [0]) rfl
     have G := a7.n Y
     refine m0 Y fun e6 => ?_
     obtain ⟨jm, e7, hm⟩ := ob hm
     refine Mw.t rfl rfl (T.call rfl (p61  (Repo.rd (K := [0]) x0.Commits x0.Heads (k.ul G) (y.ul G)) e7)) ?_
     rintro jo _ ⟨jp, rfl, Z, ⟨_, rfl, e8⟩⟩
     have e9 := e8.sub (M := [0]) rfl
     have I := Z.o
     refine mc e6 Z fun fb => ?_
     obtain ⟨jq, fc, hm⟩ := ob hm
     refine Mw.t rfl rfl (T.call rfl (p61  (Repo.rd (K := [0]) x0.Commits x0.Heads (k.ul (G.trans I)) (y.ul (G.trans I))) fc)) ?_
     rintro jr _ ⟨js, rfl, aa, ⟨_, rfl, fd⟩⟩
     have fe := fd.sub (M := [0]) rfl
     have ac := aa.o
     refine mc fb aa fun ff => ?_
     obtain ⟨H, fg, hm⟩ := ob hm
     refine Mw.t rfl rfl (T.call rfl (p59 (k0 := 14) (e5.ul (I.trans ac)) (e9.ul ac) fe (co.ul ((G.trans I).trans ac)) fg)) ?_
     rintro _ _ ⟨fh, rfl, ae, ⟨i, rfl, fi⟩⟩
     have fj : Ow (α := List (Sh Vm.File)) fh 14 [0] [i] H.1 := fi.sub rfl
     have af := ((G.trans I).trans ac).n ae
     have a8 := (((V.up Y).up Z).up aa).up ae
     have dh := ((((da.up a6).up Y).up Z).up aa).up ae
     refine mc ff ae fun jt => Dv (.tuple [i, vB H.2].toArray) rfl (Mw.p rfl rfl (fun _ => R.ext (vs := [i, vB H.2]) (v := i) rfl rfl) (Mw.p rfl rfl (fun _ => R.ext (vs := [i, vB H.2]) (v := vB H.2) rfl rfl) (Hv i rfl (Hb rfl (Mw.nil (ssr (mb rfl (Lw.r rfl (R.not rfl) (nl (cn hm (fun hm => ?_) fun hm => ?_))))))))))
     ·refine sr (la a8 (cr hm (fun _ => p56 (k0 := 15) (k1 := 16) (Repo.rd (K := [0]) x0.Commits x0.Heads (k.ul af) (y.ul af))) ?_))
      rintro ju _ jv hm di ⟨fm, fn, rfl, dj, dk⟩
      have fo := af.n di
      refine sta (dh.up di) (oc_cons dj.oc (oc_cons dk.oc oc_nil)) fun jw a9 fp => ?_
      have fq := fo.t a9
      refine Ni rfl ?_
      obtain ⟨jx, fr, ba, fs⟩ := (dj.up a9).dyeO 31
      have ft := fq.t ba
      obtain ⟨jy, fu, bb, fv⟩ := ((dk.up a9).up ba).dyeO 32
      have fw := ft.t bb
      cases hm
      rw [← fu.trans (fr)]
      exact Cw.ret (retA2 rfl ((fp.up ba).up bb) rfl (Res.mk fw ⟨fm, fn, rfl, (fs.up bb).s, fv.s⟩))
     ·refine sk (Cw.seq ?_)
      obtain ⟨A, fx, hm⟩ := ob hm
      obtain ⟨B, fy, hm⟩ := ob hm
      obtain ⟨a, fz, hm⟩ := ob hm
      refine Cw.par [[], [], [1], [], [], [], [], [], [6, 7], [1, 2, 3, 4, 5, 6, 7, 8], [0, 1, 2, 3, 4, 5, 6, 7, 8, 9], [0, 1, 2, 3, 4, 5, 6, 7, 8, 9, 10], [0, 1, 2, 3, 4, 5, 6, 7, 8, 9, 10, 11], [0, 1, 2, 3, 4, 5, 6, 7, 8, 9, 10, 11], [], [0, 1, 2, 3, 4, 5, 6, 7, 8, 9, 10, 11, 12, 14], [0, 1, 2, 3, 4, 5, 6, 7, 8, 9, 10, 11, 12, 13, 14, 15]] [[], [], [1], [], [], [], [], [], [6, 7], [2, 3, 4, 5, 8], [0, 9], [10], [10, 11], [10, 11], [], [10, 12, 14], [13]] [[], [], [], [], [], [], [], [], [], [17, 18, 19], [20, 21], [], [], [], [], [24], []] [[0], [1], [2], [3], [4], [5], [6], [7], [8], [9], [10], [10, 11], [10, 12], [13], [14], [10, 14], [16]] [[], [], [17, 18], [], [], [], [], [], [19], [20, 21], [22, 23], [], [], [], [24], [24], []] [0, 1, 3, 4, 5, 6, 7, 10, 11, 12, 13, 15, 16] [17, 18, 19, 20, 21, 24] [fun vs W => (vs 0) = .agg [e, f].toArray, fun vs W => (vs 1) = .agg [e, f].toArray, fun vs W => (vs 2) = .agg [(cellOf (vs 2) 0), (cellOf (vs 2) 1)].toArray ∧ Ow W 17 [] [(cellOf (vs 2) 0)] A.Commits ∧ Ow W 18 [] [(cellOf (vs 2) 1)] A.Heads, fun vs W => (vs 3) = vS x1, fun vs W => (vs 4) = vS x2, fun vs W => (vs 5) = i, fun vs W => (vs 6) = vI z, fun vs W => (vs 7) = vI x3, fun vs W => Ow W 19 [] [(vs 8)] ([z, x3] : List Int), fun vs W => (vs 9) = .agg [(cellOf (vs 9) 0), (cellOf (vs 9) 1)].toArray ∧ Ow W 20 [] [(cellOf (vs 9) 0)] B.Commits ∧ Ow W 21 [] [(cellOf (vs 9) 1)] B.Heads, fun vs W => (vs 10) = .tuple [.agg [(cellOf (cellOf (vs 10) 0) 0), (cellOf (cellOf (vs 10) 0) 1)].toArray, vB a.2].toArray ∧ Ow W 22 [] [(cellOf (cellOf (vs 10) 0) 0)] a.1.Commits ∧ Ow W 23 [] [(cellOf (cellOf (vs 10) 0) 1)] a.1.Heads, fun vs W => (vs 11) = .tuple [.agg [(cellOf (cellOf (vs 10) 0) 0), (cellOf (cellOf (vs 10) 0) 1)].toArray, vB a.2].toArray, fun vs W => (vs 12) = .agg [(cellOf (cellOf (vs 10) 0) 0), (cellOf (cellOf (vs 10) 0) 1)].toArray, fun vs W => (vs 13) = vB a.2, fun vs W => (vs 14) = ptr (bx (pg (vs 14))) ∧ Bx W 24 (pg (vs 14)) [.slice none 0 0, .slice none 0 0], fun vs W => (vs 14) = ptr (bx (pg (vs 14))) ∧ Bx W 24 (pg (vs 14)) [(cellOf (cellOf (vs 10) 0) 0), (cellOf (cellOf (vs 10) 0) 1)], fun vs W => (vs 16) = vB a.2] [] mixed (by kernel_rfl) rfl AllF.nil ?_
      intro jz J
      have bc := af.n J
      refine ⟨(Steps.cons ?_ (Steps.cons ?_ (Steps.cons ?_ (Steps.cons ?_ (Steps.cons ?_ (Steps.cons ?_ (Steps.cons ?_ (Steps.cons ?_ (Steps.cons ?_ (Steps.cons ?_ (Steps.cons ?_ (Steps.cons ?_ (Steps.cons ?_ (Steps.cons ?_ (Steps.cons ?_ (Steps.cons ?_ (Steps.cons ?_ Steps.nil))))))))))))))))), (Sups.cons (fun vs vs' W W' _ hv l hd h => by (show (vs' 0) = .agg [e, f].toArray); rw [hv 0 (anyb rfl)]; exact h) (Sups.cons (fun vs vs' W W' _ hv l hd h => by (show (vs' 1) = .agg [e, f].toArray); rw [hv 1 (anyb rfl)]; exact h) (Sups.cons (fun vs vs' W W' _ hv l hd h => by (show (vs' 2) = .agg [(cellOf (vs' 2) 0), (cellOf (vs' 2) 1)].toArray ∧ Ow W' 17 [] [(cellOf (vs' 2) 0)] A.Commits ∧ Ow W' 18 [] [(cellOf (vs' 2) 1)] A.Heads); rw [hv 2 (anyb rfl)]; exact ⟨h.1, h.2.1.upv l (disj_mem hd (c := 17) rfl), h.2.2.upv l (disj_mem hd (c := 18) rfl)⟩) (Sups.cons (fun vs vs' W W' _ hv l hd h => by (show (vs' 3) = vS x1); rw [hv 3 (anyb rfl)]; exact h) (Sups.cons (fun vs vs' W W' _ hv l hd h => by (show (vs' 4) = vS x2); rw [hv 4 (anyb rfl)]; exact h) (Sups.cons (fun vs vs' W W' _ hv l hd h => by (show (vs' 5) = i); rw [hv 5 (anyb rfl)]; exact h) (Sups.cons (fun vs vs' W W' _ hv l hd h => by (show (vs' 6) = vI z); rw [hv 6 (anyb rfl)]; exact h) (Sups.cons (fun vs vs' W W' _ hv l hd h => by (show (vs' 7) = vI x3); rw [hv 7 (anyb rfl)]; exact h) (Sups.cons (fun vs vs' W W' _ hv l hd h => by (show Ow W' 19 [] [(vs' 8)] ([z, x3] : List Int)); rw [hv 8 (anyb rfl)]; exact h.upv l (disj_mem hd (c := 19) rfl)) (Sups.cons (fun vs vs' W W' _ hv l hd h => by (show (vs' 9) = .agg [(cellOf (vs' 9) 0), (cellOf (vs' 9) 1)].toArray ∧ Ow W' 20 [] [(cellOf (vs' 9) 0)] B.Commits ∧ Ow W' 21 [] [(cellOf (vs' 9) 1)] B.Heads); rw [hv 9 (anyb rfl)]; exact ⟨h.1, h.2.1.upv l (disj_mem hd (c := 20) rfl), h.2.2.upv l (disj_mem hd (c := 21) rfl)⟩) (Sups.cons (fun vs vs' W W' _ hv l hd h => by (show (vs' 10) = .tuple [.agg [(cellOf (cellOf (vs' 10) 0) 0), (cellOf (cellOf (vs' 10) 0) 1)].toArray, vB a.2].toArray ∧ Ow W' 22 [] [(cellOf (cellOf (vs' 10) 0) 0)] a.1.Commits ∧ Ow W' 23 [] [(cellOf (cellOf (vs' 10) 0) 1)] a.1.Heads); rw [hv 10 (anyb rfl)]; exact ⟨h.1, h.2.1.upv l (disj_mem hd (c := 22) rfl), h.2.2.upv l (disj_mem hd (c := 23) rfl)⟩) (Sups.cons (fun vs vs' W W' _ hv l hd h => by (show (vs' 11) = .tuple [.agg [(cellOf (cellOf (vs' 10) 0) 0), (cellOf (cellOf (vs' 10) 0) 1)].toArray, vB a.2].toArray); rw [hv 10 (anyb rfl), hv 11 (anyb rfl)]; exact h) (Sups.cons (fun vs vs' W W' _ hv l hd h => by (show (vs' 12) = .agg [(cellOf (cellOf (vs' 10) 0) 0), (cellOf (cellOf (vs' 10) 0) 1)].toArray); rw [hv 10 (anyb rfl), hv 12 (anyb rfl)]; exact h) (Sups.cons (fun vs vs' W W' _ hv l hd h => by (show (vs' 13) = vB a.2); rw [hv 13 (anyb rfl)]; exact h) (Sups.cons (fun vs vs' W W' _ hv l hd h => by (show (vs' 14) = ptr (bx (pg (vs' 14))) ∧ Bx W' 24 (pg (vs' 14)) [.slice none 0 0, .slice none 0 0]); rw [hv 14 (anyb rfl)]; exact ⟨h.1, h.2.up l (disj_mem hd (c := 24) rfl)⟩) (Sups.cons (fun vs vs' W W' _ hv l hd h => by (show (vs' 14) = ptr (bx (pg (vs' 14))) ∧ Bx W' 24 (pg (vs' 14)) [(cellOf (cellOf (vs' 10) 0) 0), (cellOf (cellOf (vs' 10) 0) 1)]); rw [hv 10 (anyb rfl), hv 14 (anyb rfl)]; exact ⟨h.1, h.2.up l (disj_mem hd (c := 24) rfl)⟩) (Sups.cons (fun vs vs' W W' _ hv l hd h => by (show (vs' 16) = vB a.2); rw [hv 16 (anyb rfl)]; exact h) Sups.nil))))))))))))))))), ?_⟩
      ·intro vs W lW hN
       obtain ⟨f0, f1⟩ : ∃ X, X = W := ⟨W, rfl⟩
       subst f1
       refine Tr.mono (Run.tr (R.lda (cs := [e, f]) ((a8.up J).up lW rfl).cells rfl rfl)) ?_
       rintro _ _ ⟨hu, rfl⟩
       obtain rfl := hu.symm
       exact ⟨f0, rfl, Le.refl _ _, (show (.agg [e, f].toArray : Value) = .agg [e, f].toArray from rfl)⟩
      ·intro vs W lW hN
       obtain ⟨f2, f3⟩ : ∃ X, X = W := ⟨W, rfl⟩
       subst f3
       refine Tr.mono (Run.tr (R.lda (cs := [e, f]) ((a8.up J).up lW rfl).cells rfl rfl)) ?_
       rintro _ _ ⟨hu, rfl⟩
       obtain rfl := hu.symm
       exact ⟨f2, rfl, Le.refl _ _, (show (.agg [e, f].toArray : Value) = .agg [e, f].toArray from rfl)⟩
      ·intro vs W lW hN
       obtain ⟨j0, f4⟩ : ∃ X, X = W := ⟨W, rfl⟩
       subst f4
       have dl := bc.t lW rfl
       have be : vs 1 = .agg [e, f].toArray := (hN 1 (anyb rfl))
       obtain ⟨vs, rfl⟩ := up_eq be
       refine Tr.mono (T.call rfl (p56 (k0 := 17) (k1 := 18) (Repo.rd (K := [0]) x0.Commits x0.Heads (k.ul dl) (y.ul dl)) fx)) ?_
       rintro _ _ ⟨bg, rfl, f5, ⟨bh, bi, rfl, f6, f7⟩⟩
       exact ⟨bg, rfl, f5, (show (.agg [bh, bi].toArray : Value) = .agg [bh, bi].toArray ∧ Ow bg 17 [] [bh] A.Commits ∧ Ow bg 18 [] [bi] A.Heads from ⟨rfl, f6, f7⟩)⟩
      ·intro vs W lW hN
       obtain ⟨f8, f9⟩ : ∃ X, X = W := ⟨W, rfl⟩
       subst f9
       refine Tr.mono (Run.tr (R.mv (v := vS x1) rfl)) ?_
       rintro _ _ ⟨hu, rfl⟩
       obtain rfl := hu.symm
       exact ⟨f8, rfl, Le.refl _ _, (show (vS x1 : Value) = vS x1 from rfl)⟩
      ·intro vs W lW hN
       obtain ⟨ga, gb⟩ : ∃ X, X = W := ⟨W, rfl⟩
       subst gb
       refine Tr.mono (Run.tr (R.mv (v := vS x2) rfl)) ?_
       rintro _ _ ⟨hu, rfl⟩
       obtain rfl := hu.symm
       exact ⟨ga, rfl, Le.refl _ _, (show (vS x2 : Value) = vS x2 from rfl)⟩
      ·intro vs W lW hN
       obtain ⟨gc, gd⟩ : ∃ X, X = W := ⟨W, rfl⟩
       subst gd
       refine Tr.mono (Run.tr (R.mv (v := i) rfl)) ?_
       rintro _ _ ⟨hu, rfl⟩
       obtain rfl := hu.symm
       exact ⟨gc, rfl, Le.refl _ _, (show (i : Value) = i from rfl)⟩
      ·intro vs W lW hN
       obtain ⟨gf, gg⟩ : ∃ X, X = W := ⟨W, rfl⟩
       subst gg
       refine Tr.mono (Run.tr (R.mv (v := vI z) rfl)) ?_
       rintro _ _ ⟨hu, rfl⟩
       obtain rfl := hu.symm
       exact ⟨gf, rfl, Le.refl _ _, (show (vI z : Value) = vI z from rfl)⟩
      ·intro vs W lW hN
       obtain ⟨gh, gj⟩ : ∃ X, X = W := ⟨W, rfl⟩
       subst gj
       refine Tr.mono (Run.tr (R.mv (v := vI x3) rfl)) ?_
       rintro _ _ ⟨hu, rfl⟩
       obtain rfl := hu.symm
       exact ⟨gh, rfl, Le.refl _ _, (show (vI x3 : Value) = vI x3 from rfl)⟩
      ·intro vs W lW hN
       obtain ⟨gk, gm⟩ : ∃ X, X = W := ⟨W, rfl⟩
       subst gm
       have bj : vs 6 = vI z := (hN 6 (anyb rfl))
       obtain ⟨vs, rfl⟩ := up_eq bj
       have bk : vs 7 = vI x3 := (hN 7 (anyb rfl))
       obtain ⟨vs, rfl⟩ := up_eq bk
       refine Tr.mono (T.bsS (α := Int) (xs := [z, x3]) 19 [] (W := gk) [vI z, vI x3] (Each.cons ((rdI _)) (Each.cons ((rdI _)) Each.nil)) rfl) ?_
       rintro gn _ ⟨dm, rfl, go, gr⟩
       exact ⟨dm, rfl, go, (show Ow dm 19 [] [gn] ([z, x3] : List Int) from gr)⟩
      ·intro vs W lW hN
       obtain ⟨ah, gs⟩ : ∃ X, X = W := ⟨W, rfl⟩
       subst gs
       obtain ⟨bl, bm, gu⟩ : ∃ bl bm : Value, vs 2 = .agg [bl, bm].toArray := ⟨_, _, (hN 2 (anyb rfl)).1⟩
       obtain ⟨vs, rfl⟩ := up_eq gu
       have gv : Ow ah 17 [] [bl] A.Commits := (hN 2 (anyb rfl)).2.1
       have gw : Ow ah 18 [] [bm] A.Heads := (hN 2 (anyb rfl)).2.2
       have bn : vs 3 = vS x1 := (hN 3 (anyb rfl))
       obtain ⟨vs, rfl⟩ := up_eq bn
       have bp : vs 4 = vS x2 := (hN 4 (anyb rfl))
       obtain ⟨vs, rfl⟩ := up_eq bp
       have bq : vs 5 = i := (hN 5 (anyb rfl))
       obtain ⟨vs, rfl⟩ := up_eq bq
       obtain ⟨gx, gy⟩ : ∃ v, vs 8 = v := ⟨_, rfl⟩
       obtain ⟨vs, rfl⟩ := up_eq gy
       have gz : Ow ah 19 [] [gx] ([z, x3] : List Int) := (hN 8 (anyb rfl))
       have g0 : Rd (α := List Vm.File) ah [14, 0] [i] H.1 := Ow.rdSh ((fj.up J).up lW rfl)
       refine Tr.mono (T.call rfl (p63 (K := [0, 14]) (k0 := 20) (k1 := 21) (c0 := 17) (c1 := 18) (c2 := 19) (x0 := (Vm.Repo.mk A.Commits A.Heads)) gv gw (g0.sub (M := [0, 14]) rfl) gz rfl fy)) ?_
       rintro _ _ ⟨br, rfl, g2, ⟨bu, bv, rfl, g4, g5⟩⟩
       exact ⟨br, rfl, g2, (show (.agg [bu, bv].toArray : Value) = .agg [bu, bv].toArray ∧ Ow br 20 [] [bu] B.Commits ∧ Ow br 21 [] [bv] B.Heads from ⟨rfl, g4, g5⟩)⟩
      ·intro vs W lW hN
       obtain ⟨dn, g6⟩ : ∃ X, X = W := ⟨W, rfl⟩
       subst g6
       have bw := bc.t lW rfl
       have bz : vs 0 = .agg [e, f].toArray := (hN 0 (anyb rfl))
       obtain ⟨vs, rfl⟩ := up_eq bz
       obtain ⟨b0, b2, g7⟩ : ∃ b0 b2 : Value, vs 9 = .agg [b0, b2].toArray := ⟨_, _, (hN 9 (anyb rfl)).1⟩
       obtain ⟨vs, rfl⟩ := up_eq g7
       have g8 : Ow dn 20 [] [b0] B.Commits := (hN 9 (anyb rfl)).2.1
       have g9 : Ow dn 21 [] [b2] B.Heads := (hN 9 (anyb rfl)).2.2
       refine Tr.mono (T.call rfl (p62 (k0 := 22) (k1 := 23) (c0 := 20) (c1 := 21) (x1 := (Vm.Repo.mk B.Commits B.Heads)) (Repo.rd (K := [0]) x0.Commits x0.Heads (k.ul bw) (y.ul bw)) g8 g9 (co.ul bw) rfl fz)) ?_
       rintro _ _ ⟨b4, rfl, ha, ⟨b5, b6, rfl, hb, hc⟩⟩
       exact ⟨b4, rfl, ha, (show (.tuple [.agg [b5, b6].toArray, vB a.2].toArray : Value) = .tuple [.agg [b5, b6].toArray, vB a.2].toArray ∧ Ow b4 22 [] [b5] a.1.Commits ∧ Ow b4 23 [] [b6] a.1.Heads from ⟨rfl, hb, hc⟩)⟩
      ·intro vs W lW hN
       obtain ⟨b7, he⟩ : ∃ X, X = W := ⟨W, rfl⟩
       subst he
       obtain ⟨b, d, D⟩ : ∃ b d : Value, vs 10 = .tuple [.agg [b, d].toArray, vB a.2].toArray := ⟨_, _, (hN 10 (anyb rfl)).1⟩
       obtain ⟨vs, rfl⟩ := up_eq D
       have j1 : Ow b7 22 [] [b] a.1.Commits := (hN 10 (anyb rfl)).2.1
       have j2 : Ow b7 23 [] [d] a.1.Heads := (hN 10 (anyb rfl)).2.2
       refine Tr.mono (Run.tr (R.mv (v := .tuple [.agg [b, d].toArray, vB a.2].toArray) rfl)) ?_
       rintro _ _ ⟨hu, rfl⟩
       obtain rfl := hu.symm
       exact ⟨b7, rfl, Le.refl _ _, (show (.tuple [.agg [b, d].toArray, vB a.2].toArray : Value) = .tuple [.agg [b, d].toArray, vB a.2].toArray from rfl)⟩
      ·intro vs W lW hN
       obtain ⟨b8, hf⟩ : ∃ X, X = W := ⟨W, rfl⟩
       subst hf
       obtain ⟨b, d, D⟩ : ∃ b d : Value, vs 10 = .tuple [.agg [b, d].toArray, vB a.2].toArray := ⟨_, _, (hN 10 (anyb rfl)).1⟩
       obtain ⟨vs, rfl⟩ := up_eq D
       have j3 : Ow b8 22 [] [b] a.1.Commits := (hN 10 (anyb rfl)).2.1
       have j4 : Ow b8 23 [] [d] a.1.Heads := (hN 10 (anyb rfl)).2.2
       have L : vs 11 = .tuple [.agg [b, d].toArray, vB a.2].toArray := (hN 11 (anyb rfl))
       obtain ⟨vs, rfl⟩ := up_eq L
       refine Tr.mono (Run.tr (R.ext (vs := [.agg [b, d].toArray, vB a.2]) (v := .agg [b, d].toArray) rfl rfl)) ?_
       rintro _ _ ⟨hu, rfl⟩
       obtain rfl := hu.symm
       exact ⟨b8, rfl, Le.refl _ _, (show (.agg [b, d].toArray : Value) = .agg [b, d].toArray from rfl)⟩
      ·intro vs W lW hN
       obtain ⟨b9, hg⟩ : ∃ X, X = W := ⟨W, rfl⟩
       subst hg
       obtain ⟨b, d, D⟩ : ∃ b d : Value, vs 10 = .tuple [.agg [b, d].toArray, vB a.2].toArray := ⟨_, _, (hN 10 (anyb rfl)).1⟩
       obtain ⟨vs, rfl⟩ := up_eq D
       have j5 : Ow b9 22 [] [b] a.1.Commits := (hN 10 (anyb rfl)).2.1
       have j6 : Ow b9 23 [] [d] a.1.Heads := (hN 10 (anyb rfl)).2.2
       have L : vs 11 = .tuple [.agg [b, d].toArray, vB a.2].toArray := (hN 11 (anyb rfl))
       obtain ⟨vs, rfl⟩ := up_eq L
       refine Tr.mono (Run.tr (R.ext (vs := [.agg [b, d].toArray, vB a.2]) (v := vB a.2) rfl rfl)) ?_
       rintro _ _ ⟨hu, rfl⟩
       obtain rfl := hu.symm
       exact ⟨b9, rfl, Le.refl _ _, (show (vB a.2 : Value) = vB a.2 from rfl)⟩
      ·intro vs W lW hN
       obtain ⟨j7, hh⟩ : ∃ X, X = W := ⟨W, rfl⟩
       subst hh
       refine Tr.mono (T.alloc 24 (cs := [.slice none 0 0, .slice none 0 0]) rfl) ?_
       rintro _ _ ⟨cb, dp, rfl, rfl, hi, hj⟩
       exact ⟨dp, rfl, hi, (show (ptr (bx cb) : Value) = ptr (bx cb) ∧ Bx dp 24 cb [.slice none 0 0, .slice none 0 0] from ⟨rfl, hj⟩)⟩
      ·intro vs W lW hN
       obtain ⟨cc, hk⟩ : ∃ X, X = W := ⟨W, rfl⟩
       subst hk
       obtain ⟨b, d, D⟩ : ∃ b d : Value, vs 10 = .tuple [.agg [b, d].toArray, vB a.2].toArray := ⟨_, _, (hN 10 (anyb rfl)).1⟩
       obtain ⟨vs, rfl⟩ := up_eq D
       have hl : Ow cc 22 [] [b] a.1.Commits := (hN 10 (anyb rfl)).2.1
       have hn : Ow cc 23 [] [d] a.1.Heads := (hN 10 (anyb rfl)).2.2
       have cd : vs 12 = .agg [b, d].toArray := (hN 12 (anyb rfl))
       obtain ⟨vs, rfl⟩ := up_eq cd
       obtain ⟨C, ce⟩ : ∃ C, vs 14 = ptr (bx C) := ⟨_, ((hN 14 (anyb rfl))).1⟩
       obtain ⟨vs, rfl⟩ := up_eq ce
       have ho : Bx cc 24 C [.slice none 0 0, .slice none 0 0] := (hN 14 (anyb rfl)).2
       refine Tr.mono (T.sta (vs := [b, d]) ho rfl rfl (oc_cons hl.oc (oc_cons hn.oc oc_nil)) rfl rfl) ?_
       rintro _ _ ⟨dq, rfl, hp, hq⟩
       exact ⟨dq, rfl, hp, (show (ptr (bx C)) = ptr (bx C) ∧ Bx dq 24 C [b, d] from ⟨rfl, hq⟩)⟩
      ·intro vs W lW hN
       obtain ⟨hr, hs⟩ : ∃ X, X = W := ⟨W, rfl⟩
       subst hs
       have cf : vs 13 = vB a.2 := (hN 13 (anyb rfl))
       obtain ⟨vs, rfl⟩ := up_eq cf
       refine Tr.mono (Run.tr (R.as (v := vB a.2) rfl)) ?_
       rintro _ _ ⟨hu, rfl⟩
       obtain rfl := hu.symm
       exact ⟨hr, rfl, Le.refl _ _, (show (vB a.2 : Value) = vB a.2 from rfl)⟩
      ·intro vs W lW hN
       obtain ⟨cg, ht⟩ : ∃ X, X = W := ⟨W, rfl⟩
       subst ht
       have dr := bc.t lW rfl
       have ds := (dh.up J).up lW rfl
       obtain ⟨j8, hl477⟩ : ∃ x, x = lW := ⟨lW, rfl⟩
       have bz : vs 0 = .agg [e, f].toArray := (hN 0 (anyb rfl))
       obtain ⟨vs, rfl⟩ := up_eq bz
       have be : vs 1 = .agg [e, f].toArray := (hN 1 (anyb rfl))
       obtain ⟨vs, rfl⟩ := up_eq be
       have bn : vs 3 = vS x1 := (hN 3 (anyb rfl))
       obtain ⟨vs, rfl⟩ := up_eq bn
       have bp : vs 4 = vS x2 := (hN 4 (anyb rfl))
       obtain ⟨vs, rfl⟩ := up_eq bp
       have bq : vs 5 = i := (hN 5 (anyb rfl))
       obtain ⟨vs, rfl⟩ := up_eq bq
       have bj : vs 6 = vI z := (hN 6 (anyb rfl))
       obtain ⟨vs, rfl⟩ := up_eq bj
       have bk : vs 7 = vI x3 := (hN 7 (anyb rfl))
       obtain ⟨vs, rfl⟩ := up_eq bk
       obtain ⟨b, d, D⟩ : ∃ b d : Value, vs 10 = .tuple [.agg [b, d].toArray, vB a.2].toArray := ⟨_, _, (hN 10 (anyb rfl)).1⟩
       obtain ⟨vs, rfl⟩ := up_eq D
       have ai : Ow cg 22 [] [b] a.1.Commits := (hN 10 (anyb rfl)).2.1
       have aj : Ow cg 23 [] [d] a.1.Heads := (hN 10 (anyb rfl)).2.2
       have L : vs 11 = .tuple [.agg [b, d].toArray, vB a.2].toArray := (hN 11 (anyb rfl))
       obtain ⟨vs, rfl⟩ := up_eq L
       have cd : vs 12 = .agg [b, d].toArray := (hN 12 (anyb rfl))
       obtain ⟨vs, rfl⟩ := up_eq cd
       have cf : vs 13 = vB a.2 := (hN 13 (anyb rfl))
       obtain ⟨vs, rfl⟩ := up_eq cf
       obtain ⟨C, ce⟩ : ∃ C, vs 14 = ptr (bx C) := ⟨_, (hN 15 (anyb rfl)).1⟩
       obtain ⟨vs, rfl⟩ := up_eq ce
       have dt : Bx cg 24 C [b, d] := (hN 15 (anyb rfl)).2
       have hw : vs 16 = vB a.2 := (hN 16 (anyb rfl))
       obtain ⟨vs, rfl⟩ := up_eq hw
       refine ssr (mb rfl (Lw.r rfl (R.not rfl) (nl (cn hm (fun hm => ?_) fun hm => ?_))))
       ·refine sr (Lw.r rfl (R.lda (cs := [b, d]) dt.cells rfl rfl) (sta ds (oc_cons ai.oc (oc_cons aj.oc oc_nil)) fun j9 ch hx => ?_))
        have hy := dr.t ch
        refine Ni rfl ?_
        obtain ⟨ka, hz, ci, h1⟩ := (ai.up ch).dyeO 31
        have h2 := hy.t ci
        obtain ⟨kb, h3, cj, h4⟩ := ((aj.up ch).up ci).dyeO 32
        have h5 := h2.t cj
        cases hm
        rw [← h3.trans (hz)]
        exact Cw.ret (retA2 rfl ((hx.up ci).up cj) rfl (Res.mk h5 ⟨b, d, rfl, (h1.up cj).s, h4.s⟩))
       ·refine sk (sr (Lw.r rfl (R.lda (cs := [b, d]) dt.cells rfl rfl) (sta ds (oc_cons ai.oc (oc_cons aj.oc oc_nil)) fun kc ck h6 => ?_)))
        have h7 := dr.t ck
        refine Ni rfl ?_
        obtain ⟨kd, h8, cl, h9⟩ := (ai.up ck).dyeO 31
        have ia := h7.t cl
        obtain ⟨ke, ib, cm, ic⟩ := ((aj.up ck).up cl).dyeO 32
        have id := ia.t cm
        cases hm
        rw [← ib.trans (h8)]
        exact Cw.ret (retA2 rfl ((h6.up cl).up cm) rfl (Res.mk id ⟨b, d, rfl, (h9.up cm).s, ic.s⟩))
 ·refine rg (mi rfl (Lw.lt rfl (mb rfl (bs hm (fun N hm => ?_) fun N hm => ?_))))
  ·exact psk 3 N rfl (Pb N rfl (mb rfl (psk 4 rfl rfl (Pb rfl rfl (nl ((ag) ⟨true, cv, rfl, Le.refl _ _, rfl, hm⟩))))))
  ·refine wak 3 N (ms rfl (ca hm (fun _ => p50) fun kf ie hm ak => ?_))
   have du := cw.n ak
   refine Lw.r rfl (R.not rfl) (Pb N rfl (mb rfl (bs hm (fun O hm => ?_) fun O hm => ?_)))
   ·exact psk 4 O rfl (Pb O rfl (nl ((ag) ⟨true, ie, rfl, ak, rfl, hm⟩)))
   ·exact wak 4 O (la (cx.up ak) (mi rfl (ca hm (fun _ => p55 (Repo.rd (K := [0]) x0.Commits x0.Heads (k.ul du) (y.ul du))) fun ig ih hm ii => Lw.r rfl (R.not rfl) (Pb O rfl (nl ((ag) ⟨(!ig), ih, rfl, (ak.j ii).w, rfl, hm⟩))))))
theorem p28 {x0 d f x1 x2 x3 k0 k1 r} (h : Rd W K [d, f] x0) (i : Gl 0 W K) (hm : Vm.impl_Repo_unite x0 x1 x2 x3 = some r) : Q1 28 [.agg [d, f].toArray, vS x1, vS x2, vI x3] W [] fun W' v => ∃ a b, v = .tuple [.agg [a, b].toArray, vI r.2].toArray ∧ Ow W' k0 [] [a] r.1.Commits ∧ Ow W' k1 [] [b] r.1.Heads :=
 CallR.adJ (J := []) (fun c => bif Nat.beq c 0 then 0 else bif Nat.beq c 31 then k0 else bif Nat.beq c 32 then k1 else 0) (c28 (h.view _) (i.view _) hm) fun _ _ ⟨a, b, e, k, x⟩ => ⟨a, b, e, k.one1.backN rfl, x.one1.backN rfl⟩
theorem c9 {x0 z A x1 x2 x3 r} (N : Rd W0 [0] [z, A] x0) (B : Gl 0 W0 [0]) (hm : Vm.impl_UniteInto x0 x1 x2 x3 = some r) : Q0 9 [.agg [z, A].toArray, vS x1, vS x2, vI x3] W0 fun Wf v => ∃ C D, v = .tuple [.agg [C, D].toArray, vI r.2].toArray ∧ OwS Wf [31] [] [C] r.1.Commits ∧ OwS Wf [32] [] [D] r.1.Heads := by
 unfold Vm.impl_UniteInto at hm
 obtain ⟨af, ah, E, F, G⟩ := Repo.split N
 simp only [List.cons.injEq, and_true, true_and] at E
 obtain ⟨rfl, rfl⟩ := E
 refine CallR.of Tryz.func9 rfl rfl rfl rfl (sr (bo 2 rfl fun g1 W1 O H => ?_))
 have P := O.o
 refine al 3 [.slice none 0 0, .slice none 0 0] fun g3 W3 h I => ?_
 have b := P.n h
 refine Ni rfl (ssr (la (H.up h) (ca hm (fun _ => p27 (Repo.rd (K := [0]) x0.Commits x0.Heads (F.ul b) (G.ul b)) (B.ul b)) fun z9 ao hm d => ?_)))
 have a := b.n d
 refine Lw.r rfl (R.not rfl) (nl (cn hm (fun hm => ?_) fun hm => ?_))
 ·refine sr (Lw.r rfl (R.bd (zs := [.slice none 0 0, .slice none 0 0]) (cs := [.slice none 0 0, .slice none 0 0]) [] rfl rfl rfl bp_nil) (sta (I.up d) (oc_cons rfl (oc_cons rfl oc_nil)) fun ap Q S => ?_))
  have T := a.t Q
  refine Ni rfl ?_
  cases hm
  exact Cw.ret (retA2 rfl S rfl (Res.mk T ⟨.slice none 0 0, .slice none 0 0, rfl, (owsN []).sub rfl rfl, (owsN []).sub rfl rfl⟩))
 ·refine sk (sr (la ((H.up h).up d) (ms rfl (ms rfl (mi rfl (cr hm (fun _ => p28 (k0 := 4) (k1 := 5) (Repo.rd (K := [0]) x0.Commits x0.Heads (F.ul a) (G.ul a)) (B.ul a)) ?_))))))
  rintro i _ aq hm J ⟨e, f, rfl, L, M⟩
  have U := a.n J
  refine Lw.r rfl (R.ext (vs := [.agg [e, f].toArray, vI i.2]) (v := .agg [e, f].toArray) rfl rfl) (Lw.r rfl (R.ext (vs := [.agg [e, f].toArray, vI i.2]) (v := vI i.2) rfl rfl) (sta ((I.up d).up J) (oc_cons L.oc (oc_cons M.oc oc_nil)) fun ar k V => ?_))
  have W := U.t k
  refine Ni rfl ?_
  obtain ⟨au, X, x, Y⟩ := (L.up k).dyeO 31
  have Z := W.t x
  obtain ⟨av, aa, y, ac⟩ := ((M.up k).up x).dyeO 32
  have ae := Z.t y
  cases hm
  rw [← aa.trans (X)]
  exact Cw.ret (retA2 rfl ((V.up x).up y) rfl (Res.mk ae ⟨e, f, rfl, (Y.up y).s, ac.s⟩))
theorem p9 {x0 d f x1 x2 x3 k0 k1 r} (h : Rd W K [d, f] x0) (i : Gl 0 W K) (hm : Vm.impl_UniteInto x0 x1 x2 x3 = some r) : Q1 9 [.agg [d, f].toArray, vS x1, vS x2, vI x3] W [] fun W' v => ∃ a b, v = .tuple [.agg [a, b].toArray, vI r.2].toArray ∧ Ow W' k0 [] [a] r.1.Commits ∧ Ow W' k1 [] [b] r.1.Heads :=
 CallR.adJ (J := []) (fun c => bif Nat.beq c 0 then 0 else bif Nat.beq c 31 then k0 else bif Nat.beq c 32 then k1 else 0) (c9 (h.view _) (i.view _) hm) fun _ _ ⟨a, b, e, k, x⟩ => ⟨a, b, e, k.one1.backN rfl, x.one1.backN rfl⟩
theorem c3 {x0 ar au x1 x2 x3 r} (h0 : Rd W0 [0] [ar, au] x0) (a8 : Gl 0 W0 [0]) (hm : Vm.laws_FnExactUniteInto x0 x1 x2 x3 = some r) : Q0 3 [.agg [ar, au].toArray, vS x1, vS x2, vI x3] W0 fun Wf v => v = vB r := by
 unfold Vm.laws_FnExactUniteInto at hm
 obtain ⟨d7, d8, a9, Q, S⟩ := Repo.split h0
 simp only [List.cons.injEq, and_true, true_and] at a9
 obtain ⟨rfl, rfl⟩ := a9
 refine CallR.of Tryz.func3 rfl rfl rfl rfl (sr (bo 2 rfl fun g1 W1 l1 b1 => ?_))
 have U := l1.o
 refine Nb rfl (ssr (ms rfl (Lw.r rfl (R.lenS rfl) (Lw.gt rfl (nl (cn hm (fun hm => ?_) fun hm => ?_))))))
 ·exact sr (Nb rfl (.ret (rt hm U)))
 ·refine sk (ssr (ms rfl (Lw.r rfl (R.lenS rfl) (Lw.gt rfl (nl (cn hm (fun hm => ?_) fun hm => ?_))))))
  ·exact sr (Nb rfl (.ret (rt hm U)))
  ·refine sk (sr (Ni rfl (sr (la b1 (mi rfl (ca hm (fun _ => p6 (Repo.rd (K := [0]) x0.Commits x0.Heads (Q.ul U) (S.ul U))) fun z7 W9 hm l9 => ?_))))))
   have aa := U.n l9
   refine Ni rfl (ssr (mi rfl (Lw.lt rfl (nl (cn hm (fun hm => ?_) fun hm => ?_)))))
   ·exact sr (Nb rfl (.ret (rt hm aa)))
   ·refine sk (sr (la (b1.up l9) (cr hm (fun _ => p8 (k0 := 3) (k1 := 4) (Repo.rd (K := [0]) x0.Commits x0.Heads (Q.ul aa) (S.ul aa))) ?_)))
    rintro ac _ ed hm ba ⟨ee, ef, rfl, cp, cq⟩
    have ct := aa.n ba
    refine ms rfl (ms rfl (mi rfl (cr hm (fun _ => p7 (K := [3, 4]) (x0 := (Vm.Repo.mk ac.Commits ac.Heads)) (Repo.rd (K := [3, 4]) ac.Commits ac.Heads (cp.rd.sub (M := [3, 4]) rfl) (cq.rd.sub (M := [3, 4]) rfl))) ?_)))
    rintro h _ eg hm bb ⟨ae, af, rfl, cu, cv⟩
    have ah := cu.sub (M := [0, 3, 4]) rfl
    have ai := cv.sub (M := [0, 3, 4]) rfl
    have cw := ct.n bb
    refine mv (.tuple [.agg [ae, af].toArray, vI h.2].toArray) rfl (Lw.r rfl (R.ext (vs := [.agg [ae, af].toArray, vI h.2]) (v := .agg [ae, af].toArray) rfl rfl) (Lw.r rfl (R.ext (vs := [.agg [ae, af].toArray, vI h.2]) (v := vI h.2) rfl rfl) (al 5 [.slice none 0 0, .slice none 0 0] fun eh ei H cx => ?_)))
    have cy := cw.n H
    refine sta cx (oc_cons ah.oc (oc_cons ai.oc oc_nil)) fun ej I cz => ?_
    have ax := cy.t I
    have bc := ((((b1.up l9).up ba).up bb).up H).up I
    refine Ni rfl (sr (la bc (cr hm (fun _ => p8 (k0 := 6) (k1 := 7) (Repo.rd (K := [0]) x0.Commits x0.Heads (Q.ul ax) (S.ul ax))) ?_)))
    rintro B _ ek hm D ⟨c2, c4, rfl, be, bg⟩
    have c5 := ax.n D
    refine al 8 [.slice none 0 0, .slice none 0 0] fun el em i c6 => ?_
    have c7 := c5.n i
    refine sta c6 (oc_cons (be.up i).oc (oc_cons (bg.up i).oc oc_nil)) fun en z bh => ?_
    have bi := c7.t z
    have bj := (be.up i).up z
    have bk := (bg.up i).up z
    refine nl (sr (la bh (ms rfl (ms rfl (mi rfl (cr hm (fun _ => p9 (K := [0, 6, 7]) (k0 := 9) (k1 := 10) (x0 := (Vm.Repo.mk B.Commits B.Heads)) ((Repo.rd (K := [6, 7]) B.Commits B.Heads (bj.rd.sub (M := [6, 7]) rfl) (bk.rd.sub (M := [6, 7]) rfl)).sub (M := [0, 6, 7]) rfl) ((a8.ul bi).sub (M := [0, 6, 7]) rfl)) ?_))))))
    rintro a _ eo hm y ⟨aj, ak, rfl, bl, bm⟩
    have c8 := bi.n y
    refine mv (.tuple [.agg [aj, ak].toArray, vI a.2].toArray) rfl (Lw.r rfl (R.ext (vs := [.agg [aj, ak].toArray, vI a.2]) (v := .agg [aj, ak].toArray) rfl rfl) (Lw.r rfl (R.ext (vs := [.agg [aj, ak].toArray, vI a.2]) (v := vI a.2) rfl rfl) (al 11 [.slice none 0 0, .slice none 0 0] fun ep er b c9 => ?_)))
    have da := c8.n b
    refine sta c9 (oc_cons (bl.up b).oc (oc_cons (bm.up b).oc oc_nil)) fun db d bn => ?_
    have dc := da.t d
    have bp := (bl.up b).up d
    have bq := (bm.up b).up d
    have br := (((((cz.up D).up i).up z).up y).up b).up d
    refine Ni rfl (Cw.seq ?_)
    obtain ⟨dd, de, hm⟩ := jn_e hm
    refine Cw.join 50 58 [58] (fun l w => ∃ ay az, CW.w az = w ∧ Le [] db az ∧ l = [vB ay] ∧ dd ay = some r) ?_ ?_
    ·rintro _ _ σ ⟨ay, az, rfl, k, rfl, hm⟩
     rw [de] at hm
     have bu := dc.n k
     refine cn hm (fun hm => ?_) fun hm => ?_
     ·exact sr (Nb rfl (.ret (rt hm bu)))
     ·refine sk (Cw.seq (Cw.seq (Cw.draw [] [(0, 1), (1, 1), (2, 2), (3, 2), (4, 0)] mixed (by kernel_rfl) fun es x => ?_)))
      have a0 := bu.n x
      have bv := (((((((bc.up D).up i).up z).up y).up b).up d).up k).up x
      have bw := ((((bh.up y).up b).up d).up k).up x
      refine Mw.q rfl rfl (fun _ c => R.lda (cs := [c2, c4]) (bw.clcs rfl c) rfl rfl) (Mw.q rfl rfl (fun _ c => R.lda (cs := [ar, au]) (bv.clcs rfl c) rfl rfl) ?_)
      obtain ⟨am, df, hm⟩ := ob hm
      refine Mw.t rfl rfl (T.call rfl (p8 (k0 := 12) (k1 := 13) (Repo.rd (K := [0]) x0.Commits x0.Heads (Q.ul a0) (S.ul a0)) df)) ?_
      rintro _ _ ⟨et, rfl, e, ⟨eu, ew, rfl, dg, dh⟩⟩
      have di := a0.n e
      have bz := (((((bj.up y).up b).up d).up k).up x).up e
      have b0 := (((((bk.up y).up b).up d).up k).up x).up e
      refine m0 e fun dj => ?_
      obtain ⟨ex, dk, hm⟩ := ob hm
      refine Mw.t rfl rfl (T.call rfl (p10 (K := [6, 7, 12, 13])  (x0 := (Vm.Repo.mk B.Commits B.Heads)) (x1 := (Vm.Repo.mk am.Commits am.Heads)) ((Repo.rd (K := [6, 7]) B.Commits B.Heads (bz.rd.sub (M := [6, 7]) rfl) (b0.rd.sub (M := [6, 7]) rfl)).sub (M := [6, 7, 12, 13]) rfl) ((Repo.rd (K := [12, 13]) am.Commits am.Heads (dg.rd.sub (M := [12, 13]) rfl) (dh.rd.sub (M := [12, 13]) rfl)).sub (M := [6, 7, 12, 13]) rfl) dk)) ?_
      rintro _ _ ⟨ey, rfl, f, rfl⟩
      have b2 := di.n f
      refine mc dj f fun ez => Mw.p rfl rfl (fun _ => R.not rfl) (Mw.nil (cn hm (fun hm => ?_) fun hm => ?_))
      ·exact sr (Nb rfl (.ret (rt hm b2)))
      ·refine sk (sr (Ni rfl (sr (la ((bw.up e).up f) (mi rfl (cr hm (fun _ => p11 (K := [0]) (c0 := 6) (c1 := 7) (x0 := (Vm.Repo.mk B.Commits B.Heads)) (bz.up f) (b0.up f) rfl) ?_))))))
       rintro e0 _ b3 hm C ⟨rfl, e1, e2⟩
       have dl := b2.t C
       have b4 := ((((bp.up k).up x).up e).up f).up C
       have b5 := ((((bq.up k).up x).up e).up f).up C
       have b6 := ((((br.up k).up x).up e).up f).up C
       have a1 := ((((bn.up k).up x).up e).up f).up C
       refine Ni rfl (Cw.seq ?_)
       obtain ⟨dm, dn, hm⟩ := jn_e hm
       refine Cw.join 67 79 [79] (fun l w => ∃ a3 a4, CW.w a4 = w ∧ Le [] b3 a4 ∧ l = [vB a3] ∧ dm a3 = some r) ?_ ?_
       ·rintro _ _ σ ⟨a3, a4, rfl, E, rfl, hm⟩
        rw [dn] at hm
        have b7 := dl.n E
        refine cn hm (fun hm => ?_) fun hm => ?_
        ·exact sr (Nb rfl (.ret (rt hm b7)))
        ·refine sk (sr (Ni rfl (sr (la (a1.up E) (mi rfl (cr hm (fun _ => p11 (K := [0]) (c0 := 9) (c1 := 10) (x0 := (Vm.Repo.mk a.1.Commits a.1.Heads)) (b4.up E) (b5.up E) rfl) ?_))))))
         rintro J _ e3 hm P ⟨rfl, b8, b9⟩
         have dp := b7.t P
         have cb := (a1.up E).up P
         refine Ni rfl (sr (Ni rfl (sr (la cb (mi rfl (ca hm (fun _ => p12 (K := [9, 10]) (x0 := (Vm.Repo.mk J.2.Commits J.2.Heads)) (Repo.rd (K := [9, 10]) J.2.Commits J.2.Heads (b8.rd.sub (M := [9, 10]) rfl) (b9.rd.sub (M := [9, 10]) rfl))) fun e4 e5 hm L => ?_))))))
         have V := dp.n L
         refine Ni rfl (ssr (mi rfl (Lw.lt rfl (nl (cn hm (fun hm => ?_) fun hm => ?_)))))
         ·exact sr (Nb rfl (.ret (rt hm V)))
         ·refine sk (ssr (mi rfl (mi rfl (Lw.ne rfl (nl (cn hm (fun hm => ?_) fun hm => ?_))))))
          ·exact sr (Nb rfl (.ret (rt hm V)))
          ·refine sk (sr (la ((((((bv.up e).up f).up C).up E).up P).up L) (cr hm (fun _ => p8 (k0 := 14) (k1 := 15) (Repo.rd (K := [0]) x0.Commits x0.Heads (Q.ul V) (S.ul V))) ?_)))
           rintro an _ e6 hm N ⟨e7, e8, rfl, dq, dr⟩
           have cc := V.n N
           refine ms rfl (ms rfl (mi rfl (cr hm (fun _ => p9 (K := [0, 14, 15]) (k0 := 16) (k1 := 17) (x0 := (Vm.Repo.mk an.Commits an.Heads)) ((Repo.rd (K := [14, 15]) an.Commits an.Heads (dq.rd.sub (M := [14, 15]) rfl) (dr.rd.sub (M := [14, 15]) rfl)).sub (M := [0, 14, 15]) rfl) ((a8.ul cc).sub (M := [0, 14, 15]) rfl)) ?_)))
           rintro F _ e9 hm O ⟨ao, ap, rfl, cd, ce⟩
           have ds := cc.n O
           refine mv (.tuple [.agg [ao, ap].toArray, vI F.2].toArray) rfl (Lw.r rfl (R.ext (vs := [.agg [ao, ap].toArray, vI F.2]) (v := .agg [ao, ap].toArray) rfl rfl) (Lw.r rfl (R.ext (vs := [.agg [ao, ap].toArray, vI F.2]) (v := vI F.2) rfl rfl) (al 18 [.slice none 0 0, .slice none 0 0] fun fb fc A dt => ?_)))
           have du := ds.n A
           refine sta dt (oc_cons (cd.up A).oc (oc_cons (ce.up A).oc oc_nil)) fun dv G dw => ?_
           have dx := du.t G
           refine Ni rfl (Cw.seq ?_)
           obtain ⟨dy, dz, hm⟩ := jn_e hm
           refine Cw.join 100 108 [108] (fun l w => ∃ a5 a6, CW.w a6 = w ∧ Le [] dv a6 ∧ l = [vB a5] ∧ dy a5 = some r) ?_ ?_
           ·rintro _ _ σ ⟨a5, a6, rfl, aq, rfl, hm⟩
            rw [dz] at hm
            have cf := dx.n aq
            refine cn hm (fun hm => ?_) fun hm => ?_
            ·exact sr (Nb rfl (.ret (rt hm cf)))
            ·refine sk (sr (Ni rfl (sr (la ((((((cb.up L).up N).up O).up A).up G).up aq) (mi rfl (ca hm (fun _ => p12 (K := [9, 10]) (x0 := (Vm.Repo.mk J.2.Commits J.2.Heads)) (Repo.rd (K := [9, 10]) J.2.Commits J.2.Heads (((((((b8.up L).up N).up O).up A).up G).up aq).rd.sub (M := [9, 10]) rfl) (((((((b9.up L).up N).up O).up A).up G).up aq).rd.sub (M := [9, 10]) rfl))) fun fd fe hm d0 => ?_))))))
             have a7 := cf.n d0
             refine Ni rfl (ssr (mi rfl (Lw.lt rfl (nl (cn hm (fun hm => ?_) fun hm => ?_)))))
             ·exact sr (Nb rfl (.ret (rt hm a7)))
             ·refine sk (ssr (mi rfl (mi rfl (Lw.ne rfl (nl (cn hm (fun hm => ?_) fun hm => ?_))))))
              ·exact sr (Nb rfl (.ret (rt hm a7)))
              ·exact sk (sr (Nb rfl (.ret (rt hm a7))))
           ·refine rg (la dw (la (((((((b6.up E).up P).up L).up N).up O).up A).up G) ?_))
            have d1 := ah.up ((H.sub (M := [5, 6, 7, 8, 9, 10, 11, 18]) rfl).trans ((I.sub (M := [5, 6, 7, 8, 9, 10, 11, 18]) rfl).trans ((D.sub (M := [5, 6, 7, 8, 9, 10, 11, 18]) rfl).trans ((i.sub (M := [5, 6, 7, 8, 9, 10, 11, 18]) rfl).trans ((z.sub (M := [5, 6, 7, 8, 9, 10, 11, 18]) rfl).trans ((y.sub (M := [5, 6, 7, 8, 9, 10, 11, 18]) rfl).trans ((b.sub (M := [5, 6, 7, 8, 9, 10, 11, 18]) rfl).trans ((d.sub (M := [5, 6, 7, 8, 9, 10, 11, 18]) rfl).trans ((k.sub (M := [5, 6, 7, 8, 9, 10, 11, 18]) rfl).trans ((x.sub (M := [5, 6, 7, 8, 9, 10, 11, 18]) rfl).trans ((e.sub (M := [5, 6, 7, 8, 9, 10, 11, 18]) rfl).trans ((f.sub (M := [5, 6, 7, 8, 9, 10, 11, 18]) rfl).trans ((C.sub (M := [5, 6, 7, 8, 9, 10, 11, 18]) rfl).trans ((E.sub (M := [5, 6, 7, 8, 9, 10, 11, 18]) rfl).trans ((P.sub (M := [5, 6, 7, 8, 9, 10, 11, 18]) rfl).trans ((L.sub (M := [5, 6, 7, 8, 9, 10, 11, 18]) rfl).trans ((N.sub (M := [5, 6, 7, 8, 9, 10, 11, 18]) rfl).trans ((O.sub (M := [5, 6, 7, 8, 9, 10, 11, 18]) rfl).trans ((A.sub (M := [5, 6, 7, 8, 9, 10, 11, 18]) rfl).trans (G.sub (M := [5, 6, 7, 8, 9, 10, 11, 18]) rfl)))))))))))))))))))) rfl
            have d2 := ai.up ((H.sub (M := [5, 6, 7, 8, 9, 10, 11, 18]) rfl).trans ((I.sub (M := [5, 6, 7, 8, 9, 10, 11, 18]) rfl).trans ((D.sub (M := [5, 6, 7, 8, 9, 10, 11, 18]) rfl).trans ((i.sub (M := [5, 6, 7, 8, 9, 10, 11, 18]) rfl).trans ((z.sub (M := [5, 6, 7, 8, 9, 10, 11, 18]) rfl).trans ((y.sub (M := [5, 6, 7, 8, 9, 10, 11, 18]) rfl).trans ((b.sub (M := [5, 6, 7, 8, 9, 10, 11, 18]) rfl).trans ((d.sub (M := [5, 6, 7, 8, 9, 10, 11, 18]) rfl).trans ((k.sub (M := [5, 6, 7, 8, 9, 10, 11, 18]) rfl).trans ((x.sub (M := [5, 6, 7, 8, 9, 10, 11, 18]) rfl).trans ((e.sub (M := [5, 6, 7, 8, 9, 10, 11, 18]) rfl).trans ((f.sub (M := [5, 6, 7, 8, 9, 10, 11, 18]) rfl).trans ((C.sub (M := [5, 6, 7, 8, 9, 10, 11, 18]) rfl).trans ((E.sub (M := [5, 6, 7, 8, 9, 10, 11, 18]) rfl).trans ((P.sub (M := [5, 6, 7, 8, 9, 10, 11, 18]) rfl).trans ((L.sub (M := [5, 6, 7, 8, 9, 10, 11, 18]) rfl).trans ((N.sub (M := [5, 6, 7, 8, 9, 10, 11, 18]) rfl).trans ((O.sub (M := [5, 6, 7, 8, 9, 10, 11, 18]) rfl).trans ((A.sub (M := [5, 6, 7, 8, 9, 10, 11, 18]) rfl).trans (G.sub (M := [5, 6, 7, 8, 9, 10, 11, 18]) rfl)))))))))))))))))))) rfl
            refine ca hm (fun _ => p10 (K := [0, 3, 4, 16, 17]) (x0 := (Vm.Repo.mk F.1.Commits F.1.Heads)) ((Repo.rd (K := [16, 17]) F.1.Commits F.1.Heads (((cd.up A).up G).rd.sub (M := [16, 17]) rfl) (((ce.up A).up G).rd.sub (M := [16, 17]) rfl)).sub (M := [0, 3, 4, 16, 17]) rfl) ((Repo.rd (K := [0, 3, 4]) h.1.Commits h.1.Heads d1 d2).sub (M := [0, 3, 4, 16, 17]) rfl)) fun ff cg hm ch => Lw.r rfl (R.not rfl) (mb rfl (bs hm (fun W hm => ?_) fun W hm => ?_))
            ·exact psk 3 W rfl (Pb W rfl (nl ((ag) ⟨true, cg, rfl, ch, rfl, hm⟩)))
            ·exact wak 3 W (mi rfl (mi rfl (Lw.ne rfl (Pb W rfl (nl ((ag) ⟨((F.2 : Int) != (h.2 : Int)), cg, rfl, ch, rfl, hm⟩))))))
       ·refine rg (mi rfl (Lw.lt rfl (mb rfl (bs hm (fun X hm => ?_) fun X hm => ?_))))
        ·exact psk 4 X rfl (Pb X rfl (mb rfl (psk 3 rfl rfl (Pb rfl rfl (nl ((ag) ⟨true, b3, rfl, Le.refl _ _, rfl, hm⟩))))))
        ·refine wak 4 X (la a1 (la b6 ?_))
         have d3 := ah.up ((H.sub (M := [5, 6, 7, 8, 11]) rfl).trans ((I.sub (M := [5, 6, 7, 8, 11]) rfl).trans ((D.sub (M := [5, 6, 7, 8, 11]) rfl).trans ((i.sub (M := [5, 6, 7, 8, 11]) rfl).trans ((z.sub (M := [5, 6, 7, 8, 11]) rfl).trans ((y.sub (M := [5, 6, 7, 8, 11]) rfl).trans ((b.sub (M := [5, 6, 7, 8, 11]) rfl).trans ((d.sub (M := [5, 6, 7, 8, 11]) rfl).trans ((k.sub (M := [5, 6, 7, 8, 11]) rfl).trans ((x.sub (M := [5, 6, 7, 8, 11]) rfl).trans ((e.sub (M := [5, 6, 7, 8, 11]) rfl).trans ((f.sub (M := [5, 6, 7, 8, 11]) rfl).trans (C.sub (M := [5, 6, 7, 8, 11]) rfl))))))))))))) rfl
         have d4 := ai.up ((H.sub (M := [5, 6, 7, 8, 11]) rfl).trans ((I.sub (M := [5, 6, 7, 8, 11]) rfl).trans ((D.sub (M := [5, 6, 7, 8, 11]) rfl).trans ((i.sub (M := [5, 6, 7, 8, 11]) rfl).trans ((z.sub (M := [5, 6, 7, 8, 11]) rfl).trans ((y.sub (M := [5, 6, 7, 8, 11]) rfl).trans ((b.sub (M := [5, 6, 7, 8, 11]) rfl).trans ((d.sub (M := [5, 6, 7, 8, 11]) rfl).trans ((k.sub (M := [5, 6, 7, 8, 11]) rfl).trans ((x.sub (M := [5, 6, 7, 8, 11]) rfl).trans ((e.sub (M := [5, 6, 7, 8, 11]) rfl).trans ((f.sub (M := [5, 6, 7, 8, 11]) rfl).trans (C.sub (M := [5, 6, 7, 8, 11]) rfl))))))))))))) rfl
         refine ca hm (fun _ => p10 (K := [0, 3, 4, 9, 10]) (x0 := (Vm.Repo.mk a.1.Commits a.1.Heads)) ((Repo.rd (K := [9, 10]) a.1.Commits a.1.Heads (b4.rd.sub (M := [9, 10]) rfl) (b5.rd.sub (M := [9, 10]) rfl)).sub (M := [0, 3, 4, 9, 10]) rfl) ((Repo.rd (K := [0, 3, 4]) h.1.Commits h.1.Heads d3 d4).sub (M := [0, 3, 4, 9, 10]) rfl)) fun fg ci hm cj => Lw.r rfl (R.not rfl) (Pb X rfl (mb rfl (bs hm (fun Y hm => ?_) fun Y hm => ?_)))
         ·exact psk 3 Y rfl (Pb Y rfl (nl ((ag) ⟨true, ci, rfl, cj, rfl, hm⟩)))
         ·exact wak 3 Y (mi rfl (mi rfl (Lw.ne rfl (Pb Y rfl (nl ((ag) ⟨((a.2 : Int) != (h.2 : Int)), ci, rfl, cj, rfl, hm⟩))))))
    ·refine rg (la bn (la br ?_))
     have d5 := ah.up ((H.sub (M := [5, 8, 11]) rfl).trans ((I.sub (M := [5, 8, 11]) rfl).trans ((D.sub (M := [5, 8, 11]) rfl).trans ((i.sub (M := [5, 8, 11]) rfl).trans ((z.sub (M := [5, 8, 11]) rfl).trans ((y.sub (M := [5, 8, 11]) rfl).trans ((b.sub (M := [5, 8, 11]) rfl).trans (d.sub (M := [5, 8, 11]) rfl)))))))) rfl
     have d6 := ai.up ((H.sub (M := [5, 8, 11]) rfl).trans ((I.sub (M := [5, 8, 11]) rfl).trans ((D.sub (M := [5, 8, 11]) rfl).trans ((i.sub (M := [5, 8, 11]) rfl).trans ((z.sub (M := [5, 8, 11]) rfl).trans ((y.sub (M := [5, 8, 11]) rfl).trans ((b.sub (M := [5, 8, 11]) rfl).trans (d.sub (M := [5, 8, 11]) rfl)))))))) rfl
     refine ca hm (fun _ => p10 (K := [0, 3, 4, 9, 10]) (x0 := (Vm.Repo.mk a.1.Commits a.1.Heads)) ((Repo.rd (K := [9, 10]) a.1.Commits a.1.Heads (bp.rd.sub (M := [9, 10]) rfl) (bq.rd.sub (M := [9, 10]) rfl)).sub (M := [0, 3, 4, 9, 10]) rfl) ((Repo.rd (K := [0, 3, 4]) h.1.Commits h.1.Heads d5 d6).sub (M := [0, 3, 4, 9, 10]) rfl)) fun fh ck hm cl => Lw.r rfl (R.not rfl) (mb rfl (bs hm (fun Z hm => ?_) fun Z hm => ?_))
     ·exact psk 3 Z rfl (Pb Z rfl (nl ((ag) ⟨true, ck, rfl, cl, rfl, hm⟩)))
     ·exact wak 3 Z (mi rfl (mi rfl (Lw.ne rfl (Pb Z rfl (nl ((ag) ⟨((a.2 : Int) != (h.2 : Int)), ck, rfl, cl, rfl, hm⟩))))))
theorem p3 {x0 a b x1 x2 x3 r} (d : Rd W K [a, b] x0) (f : Gl 0 W K) (hm : Vm.laws_FnExactUniteInto x0 x1 x2 x3 = some r) : Q1 3 [.agg [a, b].toArray, vS x1, vS x2, vI x3] W [] fun W' v => v = vB r :=
 (c3 (d.view _) (f.view _) hm).ad (fk 0) fun _ _ e => e
end Go.Sx
