/- Walks: each function answers as its model, printed by a program of ours. Conditions: the arguments read as they are given. -/
import Derived.Test.YtnjcbcngjmkajaaGreatDoorETs
import Derived.Test.YtnjcbcngjmkajaaGreatDoorEM0
import Derived.Test.YtnjcbcngjmkajaaGreatDoorEW0
namespace Go.Sx
open Go Go.Proofs Go.Vm Rp
set_option linter.unusedVariables false
set_option linter.unusedSimpArgs false
variable {W W0 : CW} {K : List Nat}
theorem c78 {x0 ai r} (h0 : Rd W0 [0] [vI x0.Kind, vS x0.Branch, vS x0.Who, vS x0.Path, vS x0.To, vI x0.At, ai] x0) (hm : Vm.ze8 x0 = some r) : Q0 78 [.agg [vI x0.Kind, vS x0.Branch, vS x0.Who, vS x0.Path, vS x0.To, vI x0.At, ai].toArray] W0 fun Wf v => v = vB r := by
 unfold Vm.ze8 at hm
 obtain ⟨co, aj, f⟩ := Op.split h0
 simp only [List.cons.injEq, and_true, true_and] at aj
 obtain rfl := aj
 refine zap.of Tryz.func78 rfl rfl rfl rfl (sr (bo 2 rfl fun g1 W1 l1 H => ?_))
 have a2 := l1.o
 refine Nb rfl (Cw.seq ?_)
 obtain ⟨K5, au, hm⟩ := za1 hm
 refine Cw.join 3 12 [12] (fun l w => ∃ I b, CW.w b = w ∧ Le [] W1 b ∧ l = [vB I] ∧ K5 I = some r) ?_ ?_
 ·rintro _ _ σ ⟨I, b, rfl, l4, rfl, hm⟩
  rw [au] at hm
  have d := a2.n l4
  have a := H.up l4
  refine cn hm (fun hm => ?_) fun hm => ?_
  ·exact sr (Nb rfl (.ret (rt hm d)))
  ·refine sk (ssr (fl a rfl (nl (Cw.block (sr (Lw.eq rfl (Nb rfl (cn hm (fun hm => ?_) fun hm => ?_))))))))
   ·obtain ⟨av, aw, hm⟩ := za1 hm
    refine Cw.join 17 28 [2] (fun l w => ∃ J L, CW.w L = w ∧ Le [] b L ∧ l = [vB J] ∧ av J = some r) ?_ ?_
    ·rintro _ _ σ ⟨J, L, rfl, ax, rfl, hm⟩
     rw [aw] at hm
     have ay := d.n ax
     exact .ret (rt hm ay)
    ·refine rg (la a (ca hm (fun _ => p98 (Op.rd (K := [0]) x0.Kind x0.Branch x0.Who x0.Path x0.To x0.At x0.Text (f.ul d))) fun cq az hm h => ?_))
     have a0 := d.n h
     refine mb rfl (bs hm (fun i hm => ?_) fun i hm => ?_)
     ·refine wak 3 i (fl (a.up h) rfl (ca hm (fun _ => p65) fun cs a1 hm E => ?_))
      have a3 := a0.n E
      refine Pb i rfl (mb rfl (bs hm (fun k hm => ?_) fun k hm => ?_))
      ·exact wak 3 k (fl ((a.up h).up E) rfl (ca hm (fun _ => p99 (f.ul a3)) fun a4 a5 hm a7 => Pb k rfl (Nb rfl ((ag) ⟨a4, a5, rfl, ((h.j E).j a7).w, rfl, hm⟩))))
      ·exact psk 3 k rfl (Pb k rfl (Nb rfl ((ag) ⟨false, a1, rfl, (h.j E).w, rfl, hm⟩)))
     ·exact psk 3 i rfl (Pb i rfl (mb rfl (psk 3 rfl rfl (Pb rfl rfl (Nb rfl ((ag) ⟨false, az, rfl, h, rfl, hm⟩))))))
   ·refine sr (Lw.eq rfl (Nb rfl (cn hm (fun hm => ?_) fun hm => ?_)))
    ·obtain ⟨a8, a9, hm⟩ := za1 hm
     refine Cw.join 31 37 [2] (fun l w => ∃ M N, CW.w N = w ∧ Le [] b N ∧ l = [vB M] ∧ a8 M = some r) ?_ ?_
     ·rintro _ _ σ ⟨M, N, rfl, ba, rfl, hm⟩
      rw [a9] at hm
      have bb := d.n ba
      exact .ret (rt hm bb)
     ·refine rg (la a (ca hm (fun _ => p98 (Op.rd (K := [0]) x0.Kind x0.Branch x0.Who x0.Path x0.To x0.At x0.Text (f.ul d))) fun ct bc hm O => mb rfl (bs hm (fun x hm => ?_) fun x hm => ?_)))
      ·exact wak 3 x (fl (a.up O) rfl (ca hm (fun _ => p65) fun be bg hm bh => Pb x rfl (Nb rfl ((ag) ⟨be, bg, rfl, (O.j bh).w, rfl, hm⟩))))
      ·exact psk 3 x rfl (Pb x rfl (Nb rfl ((ag) ⟨false, bc, rfl, O, rfl, hm⟩)))
    ·refine sr (Lw.eq rfl (Nb rfl (cn hm (fun hm => ?_) fun hm => ?_)))
     ·obtain ⟨bi, bj, hm⟩ := za1 hm
      refine Cw.join 40 51 [2] (fun l w => ∃ P Q, CW.w Q = w ∧ Le [] b Q ∧ l = [vB P] ∧ bi P = some r) ?_ ?_
      ·rintro _ _ σ ⟨P, Q, rfl, bk, rfl, hm⟩
       rw [bj] at hm
       have bl := d.n bk
       exact .ret (rt hm bl)
      ·refine rg (la a (ca hm (fun _ => p98 (Op.rd (K := [0]) x0.Kind x0.Branch x0.Who x0.Path x0.To x0.At x0.Text (f.ul d))) fun cu bm hm y => mb rfl (bs hm (fun z hm => ?_) fun z hm => ?_)))
       ·refine wak 3 z (fl (a.up y) rfl (ca hm (fun _ => p65) fun cv bn hm S => Pb z rfl (mb rfl (bs hm (fun A hm => ?_) fun A hm => ?_))))
        ·exact wak 3 A (fl ((a.up y).up S) rfl (ca hm (fun _ => p65) fun bp bq hm br => Pb A rfl (Nb rfl ((ag) ⟨bp, bq, rfl, ((y.j S).j br).w, rfl, hm⟩))))
        ·exact psk 3 A rfl (Pb A rfl (Nb rfl ((ag) ⟨false, bn, rfl, (y.j S).w, rfl, hm⟩)))
       ·exact psk 3 z rfl (Pb z rfl (mb rfl (psk 3 rfl rfl (Pb rfl rfl (Nb rfl ((ag) ⟨false, bm, rfl, y, rfl, hm⟩))))))
     ·obtain ⟨bu, bv, hm⟩ := za1 hm
      refine Cw.join 52 54 [52] (fun l w => ∃ T e, CW.w e = w ∧ Le [] b e ∧ l = [vB T] ∧ bu T = some r) ?_ ?_
      ·rintro _ _ σ ⟨T, e, rfl, am, rfl, hm⟩
       rw [bv] at hm
       have U := d.n am
       have F := a.up am
       refine cn hm (fun hm => ?_) fun hm => ?_
       ·obtain ⟨bw, bz, hm⟩ := za1 hm
        refine Cw.join 55 61 [2] (fun l w => ∃ V W, CW.w W = w ∧ Le [] e W ∧ l = [vB V] ∧ bw V = some r) ?_ ?_
        ·rintro _ _ σ ⟨V, W, rfl, b0, rfl, hm⟩
         rw [bz] at hm
         have b2 := U.n b0
         exact .ret (rt hm b2)
        ·refine rg (la F (ca hm (fun _ => p98 (Op.rd (K := [0]) x0.Kind x0.Branch x0.Who x0.Path x0.To x0.At x0.Text (f.ul U))) fun cw b3 hm X => mb rfl (bs hm (fun B hm => ?_) fun B hm => ?_)))
         ·exact wak 3 B (fl (F.up X) rfl (ca hm (fun _ => p43) fun b4 b5 hm b6 => Pb B rfl (Nb rfl ((ag) ⟨b4, b5, rfl, (X.j b6).w, rfl, hm⟩))))
         ·exact psk 3 B rfl (Pb B rfl (Nb rfl ((ag) ⟨false, b3, rfl, X, rfl, hm⟩)))
       ·obtain ⟨b8, b9, hm⟩ := za1 hm
        refine Cw.join 62 64 [62] (fun l w => ∃ Y G, CW.w G = w ∧ Le [] e G ∧ l = [vB Y] ∧ b8 Y = some r) ?_ ?_
        ·rintro _ _ σ ⟨Y, G, rfl, Z, rfl, hm⟩
         rw [b9] at hm
         have aa := U.n Z
         refine cn hm (fun hm => ?_) fun hm => ?_
         ·obtain ⟨cb, cc, hm⟩ := za1 hm
          refine Cw.join 65 71 [2] (fun l w => ∃ ac ae, CW.w ae = w ∧ Le [] G ae ∧ l = [vB ac] ∧ cb ac = some r) ?_ ?_
          ·rintro _ _ σ ⟨ac, ae, rfl, cd, rfl, hm⟩
           rw [cc] at hm
           have ce := aa.n cd
           exact .ret (rt hm ce)
          ·refine rg (la (F.up Z) (ca hm (fun _ => p98 (Op.rd (K := [0]) x0.Kind x0.Branch x0.Who x0.Path x0.To x0.At x0.Text (f.ul aa))) fun cx cf hm af => mb rfl (bs hm (fun C hm => ?_) fun C hm => ?_)))
           ·exact wak 3 C (fl ((F.up Z).up af) rfl (ca hm (fun _ => p42) fun cg ch hm ci => Pb C rfl (Nb rfl ((ag) ⟨cg, ch, rfl, (af.j ci).w, rfl, hm⟩))))
           ·exact psk 3 C rfl (Pb C rfl (Nb rfl ((ag) ⟨false, cf, rfl, af, rfl, hm⟩)))
         ·exact sk (sr (Nb rfl (.ret (rt hm aa))))
        ·refine sr (Lw.eq rfl (Nb rfl (cn hm (fun hm => ?_) fun hm => ?_)))
         ·exact sk ((ag) ⟨((x0.Kind : Int) == (6 : Int)), e, rfl, Le.refl _ _, rfl, hm⟩)
         ·exact rg (Lw.eq rfl (Nb rfl ((ag) ⟨((x0.Kind : Int) == (7 : Int)), e, rfl, Le.refl _ _, rfl, hm⟩)))
      ·refine sr (Lw.eq rfl (Nb rfl (cn hm (fun hm => ?_) fun hm => ?_)))
       ·exact sk ((ag) ⟨((x0.Kind : Int) == (4 : Int)), b, rfl, Le.refl _ _, rfl, hm⟩)
       ·exact rg (Lw.eq rfl (Nb rfl ((ag) ⟨((x0.Kind : Int) == (5 : Int)), b, rfl, Le.refl _ _, rfl, hm⟩)))
 ·refine rg (fl H rfl (ca hm (fun _ => p43) fun cy cj hm ah => Lw.r rfl (R.not rfl) (mb rfl (bs hm (fun D hm => ?_) fun D hm => ?_))))
  ·exact psk 4 D rfl (Pb D rfl (nl ((ag) ⟨true, cj, rfl, ah, rfl, hm⟩)))
  ·exact wak 4 D (fl (H.up ah) rfl (ca hm (fun _ => p43) fun ck cl hm cm => Lw.r rfl (R.not rfl) (Pb D rfl (nl ((ag) ⟨(!ck), cl, rfl, (ah.j cm).w, rfl, hm⟩)))))
theorem p78 {x0 a r} (b : Rd W K [vI x0.Kind, vS x0.Branch, vS x0.Who, vS x0.Path, vS x0.To, vI x0.At, a] x0) (hm : Vm.ze8 x0 = some r) : Q1 78 [.agg [vI x0.Kind, vS x0.Branch, vS x0.Who, vS x0.Path, vS x0.To, vI x0.At, a].toArray] W [] fun W' v => v = vB r :=
 (c78 (b.view _) hm).ad (fk 0) fun _ _ e => e
theorem c100 {x0 k x x1 r} (C : Rd W0 [0] [k, x] x0) (hm : Vm.zcc x0 x1 = some r) : Q0 100 [.agg [k, x].toArray, vS x1] W0 fun Wf v => v = vI r := by
 unfold Vm.zcc at hm
 obtain ⟨J, K, y, L, D⟩ := Repo.split C
 simp only [List.cons.injEq, and_true, true_and] at y
 obtain ⟨rfl, rfl⟩ := y
 refine zap.of Tryz.func100 rfl rfl rfl rfl (sr (bo 2 rfl fun M z E F => ?_))
 have G := E.o
 refine Ni rfl (ssr (Ni rfl (Cw.block ?_)))
 obtain ⟨H, I, hm⟩ := za1 hm
 refine Cw.loop 6 26 [4, 5] (fun m l w => ∃ b d e, CW.w e = w ∧ Le [] z e ∧ l = [vI b, vI d] ∧ Vm.zc2 x0 x1 H m b d = some r) _ ⟨0, 0, z, rfl, Le.refl _ _, rfl, hm⟩ ?_
 rintro (_ | N) _ _ σ ⟨b, d, e, rfl, f, rfl, hm⟩
 ·cases hm
 unfold Vm.zc2 at hm
 have h := G.n f
 have i := F.up f
 refine ssr ?_
 have a := D.ul h
 refine mi rfl (fl i rfl (Lw.ln x0.Heads a rfl (Lw.lt rfl (nl (cn hm (fun hm => ?_) fun hm => ?_)))))
 ·refine sk (Cw.seq (Cw.block (sr (fl i rfl (mi rfl ?_)))))
  obtain ⟨O, A, hm⟩ := ob hm
  refine Lw.r rfl (R.ix (α := Head) a A rfl rfl rfl) (Lw.fa rfl (Lw.r rfl (R.ld rfl rfl (Head.at0 (a.at_ A)).str) (ms rfl (Lw.seq rfl (nl (cn hm (fun hm => ?_) fun hm => ?_))))))
  ·refine sr (fl i rfl (mi rfl ?_))
   obtain ⟨P, B, hm⟩ := ob hm
   exact Lw.r rfl (R.ix (α := Head) a B rfl rfl rfl) (Lw.fa rfl (Lw.r rfl (R.ld rfl rfl (Head.at1 (a.at_ B)).int) (Ni rfl (.ret (rt hm h)))))
  ·exact sk (rg (mi rfl (Lw.add rfl (Ni rfl ((agm) ⟨b, w64 (d + 1), e, rfl, f, rfl, hm⟩)))))
 ·refine Cw.exit ?_
  rw [I] at hm
  exact sr (Ni rfl (.ret (rt hm h)))
theorem p100 {x0 a b x1 r} (d : Rd W K [a, b] x0) (hm : Vm.zcc x0 x1 = some r) : Q1 100 [.agg [a, b].toArray, vS x1] W [] fun W' v => v = vI r :=
 (c100 (d.view _) hm).ad (fk 0) fun _ _ e => e
theorem c67 {x0 x1 r} (hm : Vm.zeX x0 x1 = some r) : Q0 67 [vS x0, vS x1] W0 fun Wf v => v = vB r := by
 unfold Vm.zeX at hm
 refine zap.of Tryz.func67 rfl rfl rfl rfl (sr (Nb rfl ?_))
 obtain ⟨f, h, hm⟩ := za1 hm
 refine Cw.join 5 24 [4] (fun l w => ∃ d e, CW.w e = w ∧ Le [] W0 e ∧ l = [vB d] ∧ f d = some r) ?_ ?_
 ·rintro _ _ σ ⟨d, e, rfl, i, rfl, hm⟩
  rw [h] at hm
  have k := i.o
  exact .ret (rt hm k)
 ·refine rg (ms rfl (Lw.r rfl (R.lenS rfl) (ms rfl (Lw.r rfl (R.lenS rfl) (Lw.gt rfl (mb rfl (bs hm (fun a hm => ?_) fun a hm => ?_)))))))
  ·refine wak 6 a (ms rfl (ms rfl (Lw.r rfl (R.lenS rfl) ?_)))
   obtain ⟨A, x, hm⟩ := ob hm
   refine Lw.r rfl (R.ss x rfl (.inl ⟨rfl, rfl⟩) (.inr rfl)) (ms rfl (Lw.seq rfl (Pb a rfl (mb rfl (bs hm (fun b hm => ?_) fun b hm => ?_)))))
   ·refine wak 5 b (ms rfl (ms rfl (Lw.r rfl (R.lenS rfl) ?_)))
    obtain ⟨y, z, hm⟩ := ob hm
    exact Lw.r rfl (R.chm z rfl rfl) (Lw.eq rfl (Pb b rfl (Nb rfl ((ag) ⟨(((UInt8.toNat y : Int) : Int) == (47 : Int)), W0, rfl, Le.refl _ _, rfl, hm⟩))))
   ·exact psk 5 b rfl (Pb b rfl (Nb rfl ((ag) ⟨false, W0, rfl, Le.refl _ _, rfl, hm⟩)))
  ·exact psk 6 a rfl (Pb a rfl (mb rfl (psk 5 rfl rfl (Pb rfl rfl (Nb rfl ((ag) ⟨false, W0, rfl, Le.refl _ _, rfl, hm⟩))))))
theorem p67 {x0 x1 r} (hm : Vm.zeX x0 x1 = some r) : Q1 67 [vS x0, vS x1] W [] fun W' v => v = vB r :=
 (c67 (W0 := W.view [] [])  hm).ad (fk 0) fun _ _ e => e
theorem c44 {x0 d r} (z : Rd W0 [0] [d] x0) (hm : Vm.zcp x0 = some r) : Q0 44 [d] W0 fun Wf v => v = vB r := by
 unfold Vm.zcp at hm
 refine zap.of Tryz.func44 rfl rfl rfl rfl (sr (Nb rfl (ssr (Ni rfl (Cw.block ?_)))))
 obtain ⟨K5, af, hm⟩ := za1 hm
 refine Cw.loop 5 61 [2, 3, 4] (fun m l w => ∃ F h U G, CW.w G = w ∧ Le [] W0 G ∧ l = [vB F, vI h, U] ∧ Vm.zc3 x0 K5 m F h = some r) _ ⟨false, 0, undef, W0, rfl, Le.refl _ _, rfl, hm⟩ ?_
 rintro (_ | m6) _ _ σ ⟨F, h, U, G, rfl, V, rfl, hm⟩
 ·cases hm
 unfold Vm.zc3 at hm
 have A := V.o
 refine ssr (mi rfl (mv d rfl (Lw.ln x0 (z.ul A) rfl (Lw.lt rfl (nl (cn hm (fun hm => ?_) fun hm => ?_))))))
 ·refine sk (Cw.seq (Cw.block (Cw.seq ?_)))
  obtain ⟨ah, ai, hm⟩ := za1 hm
  refine Cw.join 11 44 [44] (fun l w => ∃ J B, CW.w B = w ∧ Le [] G B ∧ l = [vB J] ∧ ah J = some r) ?_ ?_
  ·rintro _ _ σ ⟨J, B, rfl, W, rfl, hm⟩
   rw [ai] at hm
   have X := A.n W
   refine cn hm (fun hm => ?_) fun hm => ?_
   ·exact sr (Nb rfl (.ret (rt hm X)))
   ·refine sk (sr (Ni rfl (Cw.block ?_)))
    obtain ⟨aj, ak, hm⟩ := za1 hm
    refine Cw.loop 45 61 [2, 4] (fun m l w => ∃ C D H, CW.w H = w ∧ Le [] B H ∧ l = [vB C, vI D] ∧ Vm.zcj x0 h aj m C D = some r) _ ⟨F, 0, B, rfl, Le.refl _ _, rfl, hm⟩ ?_
    rintro (_ | az) _ _ σ ⟨C, D, H, rfl, K, rfl, hm⟩
    ·cases hm
    unfold Vm.zcj at hm
    have Y := X.n K
    refine ssr (mi rfl (mv d rfl (Lw.ln x0 (z.ul Y) rfl (Lw.lt rfl (nl (cn hm (fun hm => ?_) fun hm => ?_))))))
    ·refine sk (Cw.seq (Cw.block (Cw.seq (Cw.draw [] [(0, 0), (1, 0), (2, 0), (3, 0), (4, 1), (5, 0), (6, 0), (7, 0), (8, 0), (9, 1), (10, 3)] mixed (by kernel_rfl) fun a0 Z => ?_))))
     have aa := Y.n Z
     refine Dv d rfl (Di rfl ?_)
     obtain ⟨a1, L, hm⟩ := ob hm
     have i := z.ul aa
     refine Mw.p rfl rfl (fun _ => R.ix (α := File) i L rfl rfl rfl) (Df rfl (Mw.q rfl rfl (fun _ c => R.ld rfl rfl (zam (File.at0 (i.at_ L)).1 rfl (File.at0 (i.at_ L)).str c)) (Dv d rfl (Di rfl ?_))))
     obtain ⟨a2, M, hm⟩ := ob hm
     refine Mw.p rfl rfl (fun _ => R.ix (α := File) i M rfl rfl rfl) (Df rfl (Mw.q rfl rfl (fun _ c => R.ld rfl rfl (zam (File.at0 (i.at_ M)).1 rfl (File.at0 (i.at_ M)).str c)) ?_))
     obtain ⟨a3, am, hm⟩ := ob hm
     refine Mw.l rfl rfl (T.call rfl (p67   am)) ?_
     rintro _ _ ⟨an, rfl, ac, rfl⟩
     have ao := aa.n ac
     refine Mw.nil (cn hm (fun hm => ?_) fun hm => ?_)
     ·exact sr (Nb rfl (.ret (rt hm ao)))
     ·exact sk (rg (mi rfl (Lw.add rfl (Ni rfl ((agm) ⟨C, w64 (D + 1), an, rfl, ((K.j Z).j ac).w, rfl, hm⟩)))))
    ·refine Cw.exit ?_
     rw [ak] at hm
     exact rg (mi rfl (Lw.add rfl (Ni rfl ((agm) ⟨C, w64 (h + 1), vI D, H, rfl, ((V.j W).j K).w, rfl, hm⟩))))
  ·refine Cw.draw [] [(0, 0), (1, 0), (2, 0), (3, 0), (4, 1), (5, 2), (6, 0), (7, 0), (8, 0), (9, 0), (10, 0), (11, 0), (12, 1), (13, 2), (14, 0), (15, 0), (16, 0), (17, 0), (18, 0), (19, 0), (20, 0), (21, 0), (22, 0), (23, 0), (24, 1), (25, 0), (26, 0), (27, 0), (28, 0), (29, 0), (30, 1), (31, 0), (32, 0), (33, 0)] mixed (by kernel_rfl) fun a4 E => ?_
   have ap := A.n E
   refine Dv d rfl (Di rfl ?_)
   obtain ⟨a5, N, hm⟩ := ob hm
   have b := z.ul ap
   refine Mw.p rfl rfl (fun _ => R.ix (α := File) b N rfl rfl rfl) (Df rfl (Mw.q rfl rfl (fun _ c => R.ld rfl rfl (zam (File.at0 (b.at_ N)).1 rfl (File.at0 (b.at_ N)).str c)) ?_))
   obtain ⟨a6, aq, hm⟩ := ob hm
   refine Mw.t rfl rfl (T.call rfl (p65   aq)) ?_
   rintro _ _ ⟨ar, rfl, k, rfl⟩
   have au := k.o
   refine m0 k fun av => Mw.p rfl rfl (fun _ => R.not rfl) (Db rfl (bs hm (fun e hm => ?_) fun e hm => ?_))
   ·exact dps 7 e rfl (Mw.p rfl rfl (fun _ => R.pk e rfl (v := vB true) rfl) (Db rfl (dps 3 rfl rfl (dpu 12 rfl (dps 1 rfl rfl (Mw.p rfl rfl (fun _ => R.pk rfl rfl (v := vB true) rfl) (Mw.nil ((ag) ⟨true, ar, rfl, (E.j k).w, rfl, hm⟩))))))))
   ·refine Wp e rfl (fun _ => R.mv (v := d) rfl) (Wp e rfl (fun _ => R.mv (v := vI h) rfl) ?_)
    obtain ⟨a8, O, hm⟩ := ob hm
    refine Wp e rfl (fun _ => R.ix (α := File) b O rfl rfl rfl) (Wp e rfl (fun _ => R.fa rfl) ?_)
    obtain ⟨a9, c48, r49⟩ := (File.at1 (b.at_ O)).cell rfl
    refine Wq e rfl (fun _ c => R.ld rfl rfl (zam (File.at1 (b.at_ O)).1 rfl c48 c)) ?_
    obtain ⟨aw, ax, hm⟩ := ob hm
    refine Wt e rfl (T.call rfl (p66  (r49.ul au) ax)) ?_
    rintro _ _ ⟨P, rfl, I, rfl⟩
    refine mc av I fun ba => Wp e rfl (fun _ => R.not rfl) (Mw.p rfl rfl (fun _ => R.pk e rfl (v := vB (!aw)) rfl) (Db rfl (bs hm (fun f hm => ?_) fun f hm => ?_)))
    ·exact dps 3 f rfl (dpu 12 rfl (dps 1 f rfl (Mw.p rfl rfl (fun _ => R.pk f rfl (v := vB true) rfl) (Mw.nil ((ag) ⟨true, P, rfl, ((E.j k).j I).w, rfl, hm⟩)))))
    ·refine Wp f rfl (fun _ => R.mv (v := vI h) rfl) (Wp f rfl (fun _ => R.gt rfl rfl) (Wp f rfl (fun _ => R.mv (v := vB (decide ((0 : Int) < (h : Int)))) rfl) (bs hm (fun a hm => ?_) fun a hm => ?_)))
     ·refine Wp a rfl (fun _ => R.mv (v := d) rfl) (Wp a rfl (fun _ => R.mv (v := vI h) rfl) ?_)
      obtain ⟨x, Q, hm⟩ := ob hm
      refine Wp a rfl (fun _ => R.ix (α := File) b Q rfl rfl rfl) (Wp a rfl (fun _ => R.fa rfl) (Wq a rfl (fun _ c => R.ld rfl rfl (zam (File.at0 (b.at_ Q)).1 rfl (File.at0 (b.at_ Q)).str c)) (Wp a rfl (fun _ => R.mv (v := d) rfl) (Wp a rfl (fun _ => R.mv (v := vI h) rfl) (Wp a rfl (fun _ => R.sub rfl rfl) ?_)))))
      obtain ⟨y, S, hm⟩ := ob hm
      exact Wp a rfl (fun _ => R.ix (α := File) b S rfl rfl rfl) (Wp a rfl (fun _ => R.fa rfl) (Wq a rfl (fun _ c => R.ld rfl rfl (zam (File.at0 (b.at_ S)).1 rfl (File.at0 (b.at_ S)).str c)) (Wp a rfl (fun _ => R.sle rfl rfl) (Wp f rfl (fun _ => R.pk a rfl (v := vB (Op.bytesLess x.Path y.Path || x.Path == y.Path)) rfl) (Mw.p rfl rfl (fun _ => R.pk f rfl (v := vB (Op.bytesLess x.Path y.Path || x.Path == y.Path)) rfl) (Mw.nil ((ag) ⟨(Op.bytesLess x.Path y.Path || x.Path == y.Path), P, rfl, ((E.j k).j I).w, rfl, hm⟩)))))))
     ·exact dps 12 a rfl (Wp f rfl (fun _ => R.pk a rfl (v := vB false) rfl) (Mw.p rfl rfl (fun _ => R.pk f rfl (v := vB false) rfl) (Mw.nil ((ag) ⟨false, P, rfl, ((E.j k).j I).w, rfl, hm⟩))))
 ·refine Cw.exit ?_
  rw [af] at hm
  exact sr (mv d rfl (Lw.ln x0 (z.ul A) rfl (Lw.le rfl (Nb rfl (.ret (rt hm A))))))
theorem p44 {x0 a r} (b : Rd W K [a] x0) (hm : Vm.zcp x0 = some r) : Q1 44 [a] W [] fun W' v => v = vB r :=
 (c44 (b.view _) hm).ad (fk 0) fun _ _ e => e
theorem c97 {x0 d r} (E : Rd W0 [0] [d] x0) (hm : Vm.zbu x0 = some r) : Q0 97 [d] W0 fun Wf v => ∃ F, v = F ∧ OwS Wf LL [] [F] r := by
 unfold Vm.zbu at hm
 refine zap.of Tryz.func97 rfl rfl rfl rfl (sr (Nv (.slice none 0 0) rfl (sr (Lw.t rfl (T.lit0 (α := File) 2 []) ?_))))
 rintro G _ ⟨H, rfl, O, P⟩
 have Q := O.o
 refine Nv G rfl (ssr (Ni rfl (Cw.block ?_)))
 obtain ⟨S, U, hm⟩ := za1 hm
 refine Cw.loop 6 27 [3, 4] (fun m l w => ∃ y f a h, CW.w h = w ∧ Le [2, 3] H h ∧ l = [a, vI f] ∧ Ow h 2 [] [a] y ∧ Vm.zbV x0 S m y f = some r) _ ⟨([] : List File), 0, G, H, rfl, Le.refl _ _, rfl, P, hm⟩ ?_
 rintro (_ | m9) _ _ σ ⟨y, f, a, h, rfl, I, rfl, K, hm⟩
 ·cases hm
 unfold Vm.zbV at hm
 have z := Q.t I
 refine ssr (mi rfl (mv d rfl (Lw.ln x0 (E.ul z) rfl (Lw.lt rfl (nl (cn hm (fun hm => ?_) fun hm => ?_))))))
 ·refine sk (Cw.seq (Cw.block (Cw.draw [2, 3] [(0, 0), (1, 0), (2, 0), (3, 0), (4, 0), (5, 1), (7, 0), (8, 0), (9, 0), (10, 0), (11, 1), (6, 2), (12, 2), (13, 0), (14, 2), (15, 2), (16, 0)] mixed (by kernel_rfl) fun an A => ?_)))
  have V := z.n A
  refine Dv a rfl (Dv d rfl (Di rfl ?_))
  obtain ⟨e, B, hm⟩ := ob hm
  have b := E.ul V
  refine Mw.p rfl rfl (fun _ => R.ix (α := File) b B rfl rfl rfl) (Df rfl (Mw.q rfl rfl (fun _ c => R.ld rfl rfl (zam (File.at0 (b.at_ B)).1 rfl (File.at0 (b.at_ B)).str c)) (Dv d rfl (Di rfl ?_))))
  obtain ⟨ao, C, hm⟩ := ob hm
  refine Mw.p rfl rfl (fun _ => R.ix (α := File) b C rfl rfl rfl) (Df rfl ?_)
  obtain ⟨ap, c22, r23⟩ := (File.at1 (b.at_ C)).cell rfl
  refine Mw.q rfl rfl (fun _ c => R.ld rfl rfl (zam (File.at1 (b.at_ C)).1 rfl c22 c)) (Mw.t rfl rfl (T.lit0 (α := Str) 3 []) ?_)
  rintro aq _ ⟨ar, rfl, i, W⟩
  have X := i.o
  refine m0 i fun Y => ?_
  obtain ⟨Z, aa, hm⟩ := ob hm
  refine Mw.t rfl rfl (T.appP (α := Str) W (r23.ul X) rfl rfl aa) ?_
  rintro k _ ⟨au, rfl, D, L⟩
  refine mc Y D fun ac => Mw.p rfl rfl (fun _ => R.bd (zs := [vS ([] : Str), .slice none 0 0]) (cs := [vS e.Path, k]) [(0, vS e.Path), (1, k)] rfl rfl rfl (zaD rfl rfl (zaD L.oc rfl zcU))) (Mw.t rfl rfl (T.bs 4 [.agg [vS e.Path, k].toArray] (cs := [vS e.Path, k]) rfl rfl (bsA rfl)) ?_)
  rintro _ _ ⟨av, aw, rfl, rfl, x, ae⟩
  refine mc ac x fun af => ?_
  obtain ⟨ah, ai, hm⟩ := ob hm
  refine Mw.t rfl rfl (T.app1 (α := File) (J := [3]) (K' := []) ((((K.up A).up i).up D).up x) ae (File.own e.Path Z (L.up x).s) rfl rfl ai) ?_
  rintro M _ ⟨aj, rfl, N, ak⟩
  exact mc af N fun ax => Hv M rfl (Mw.nil (rg (mi rfl (Lw.add rfl (Ni rfl ((agm) ⟨ah, w64 (f + 1), M, aj, rfl, (((((I.j A).j i).j D).j x).j N).w, rfl, ak, hm⟩))))))
 ·refine Cw.exit ?_
  rw [U] at hm
  refine sr (mv a rfl (Nv a rfl ?_))
  cases hm
  exact Cw.ret (zhh rfl (Res.mk z ⟨a, rfl, K.s.sub rfl rfl⟩))
theorem p97 {x0 b k0 r} (d : Rd W K [b] x0) (hm : Vm.zbu x0 = some r) : Q1 97 [b] W [] fun W' v => ∃ a, v = a ∧ Ow W' k0 [] [a] r :=
 (c97 (d.view _) hm).ad (fk k0) fun _ _ ⟨a, e, f⟩ => ⟨a, e, f.back (zhf _)⟩
theorem c119 {x0 e x1 au r} (x : Rd W0 [0] [e] x0) (h1 : Rd W0 [0] [vS x1.Path, au] x1) (hm : Vm.zdR x0 x1 = some r) : Q0 119 [e, .agg [vS x1.Path, au].toArray] W0 fun Wf v => ∃ u0, v = u0 ∧ OwS (α := List (Sh Vm.File)) Wf LL [0] [u0] r := by
 unfold Vm.zdR at hm
 obtain ⟨dp, aw, ax⟩ := File.split h1
 simp only [List.cons.injEq, and_true, true_and] at aw
 obtain rfl := aw
 refine zap.of Tryz.func119 rfl rfl rfl rfl (sr (bo 2 rfl fun g1 W1 l1 b1 => ?_))
 have a2 := l1.o
 refine Nv (.slice none 0 0) rfl (sr (Lw.t rfl (T.lit0 (α := File) 3 []) ?_))
 rintro v3 _ ⟨W3, rfl, l3, o3⟩
 have a4 := a2.n l3
 refine Nv v3 rfl (sr (Nb rfl (ssr (Ni rfl (Cw.block ?_)))))
 obtain ⟨bu, bv, hm⟩ := za1 hm
 obtain ⟨a0, bw, a1, bz⟩ := o3.toSh
 have b0 := a4.t a1
 rw [← bw]
 refine Cw.loop 9 51 [5, 6, 7] (fun m l w => ∃ (y : List Vm.File) (O : Bool) (z : Int) (d : Value) (b : CW), b.w = w ∧ Le [3, 5] a0 b ∧ l = [d, vB O, vI z] ∧ Ow (α := List (Sh Vm.File)) b 3 [0] [d] y ∧ Vm.zcv x0 x1 bu m y O z = some r) _ ⟨([] : List File), false, 0, v3, a0, rfl, Le.refl _ _, rfl, bz, hm⟩ ?_
 rintro (_ | dt) _ _ σ ⟨y, O, z, d, b, rfl, ak, rfl, P, hm⟩
 ·cases hm
 unfold Vm.zcv at hm
 have f := b0.t ak
 have A := ((b1.up l3).up a1).up ak
 refine ssr (mi rfl (mv e rfl (Lw.ln x0 (x.ul f) rfl (Lw.lt rfl (nl (cn hm (fun hm => ?_) fun hm => ?_))))))
 ·refine sk ?_
  obtain ⟨b2, b3, hm⟩ := za1 hm
  refine Cw.join 15 51 [5, 6] (fun l w => ∃ (Q : List Vm.File) (S : Bool) (U : Value) (B : CW), B.w = w ∧ Le [3, 5] b B ∧ l = [U, vB S] ∧ Ow (α := List (Sh Vm.File)) B 3 [0] [U] Q ∧ b2 Q S = some r) ?_ ?_
  ·rintro _ _ σ ⟨Q, S, U, B, rfl, b4, rfl, b5, hm⟩
   rw [b3] at hm
   exact rg (mi rfl (Lw.add rfl (Ni rfl ((agm) ⟨Q, S, w64 (z + 1), U, B, rfl, (ak.j b4).w, rfl, b5, hm⟩))))
  ·refine Cw.block ?_
   obtain ⟨b6, b7, hm⟩ := za1 hm
   refine Cw.join 15 36 [5, 6] (fun l w => ∃ (V : List Vm.File) (C : Bool) (D : Value) (W : CW), W.w = w ∧ Le [3, 5] b W ∧ l = [D, vB C] ∧ Ow (α := List (Sh Vm.File)) W 3 [0] [D] V ∧ b6 V C = some r) ?_ ?_
   ·rintro _ _ σ ⟨V, C, D, W, rfl, X, rfl, a3, hm⟩
    rw [b7] at hm
    have b8 := f.t X
    refine Cw.seq (Cw.draw [] [(0, 0), (1, 0), (2, 0), (3, 0), (4, 1), (5, 0), (6, 1), (7, 0)] mixed (by kernel_rfl) fun b9 h => ?_)
    have cb := b8.n h
    refine Dv e rfl (Di rfl ?_)
    obtain ⟨du, am, hm⟩ := ob hm
    have E := x.ul cb
    refine Mw.p rfl rfl (fun _ => R.ix (α := File) E am rfl rfl rfl) (Df rfl (Mw.q rfl rfl (fun _ c => R.ld rfl rfl (zam (File.at0 (E.at_ am)).1 rfl (File.at0 (E.at_ am)).str c)) (Dfl ((A.up X).up h) rfl rfl rfl (Mw.p rfl rfl (fun _ => R.sne rfl rfl) (Mw.nil (cn hm (fun hm => ?_) fun hm => ?_))))))
    ·refine rg (mv D rfl (mv e rfl (mi rfl ?_)))
     obtain ⟨Y, a5, hm⟩ := ob hm
     refine Lw.r rfl (R.ix (α := File) E a5 rfl rfl rfl) ?_
     obtain ⟨x47, c48, _, r49⟩ := (E.at_ a5).cells
     obtain ⟨a6, rfl, r51⟩ := File.split r49
     refine Lw.r rfl (R.lda c48 rfl rfl) (Lw.t rfl (T.bs 4 [.agg [vS Y.Path, a6].toArray] (cs := [vS Y.Path, a6]) rfl rfl (bsA rfl)) ?_)
     rintro _ _ ⟨dv, dw, rfl, rfl, an, cc⟩
     have cd := an.o
     obtain ⟨ce, cf, hm⟩ := ob hm
     refine Lw.t rfl (T.app1S (α := Sh Vm.File) (K' := [0]) ((a3.up h).up an) cc (File.rd (K := [0]) Y.Path Y.Text (r51.ul cd)).sh1 rfl rfl cf) ?_
     rintro a7 _ ⟨cg, rfl, ch, ci⟩
     exact Nv a7 rfl ((ag) ⟨ce, C, a7, cg, rfl, (((X.j h).j an).j ch).w, rfl, ci, hm⟩)
    ·exact sk ((ag) ⟨V, C, D, b9, rfl, (X.j h).w, rfl, (a3.up h), hm⟩)
   ·obtain ⟨cj, ck, hm⟩ := za1 hm
    refine Cw.join 15 26 [26] (fun l w => ∃ ao Z, CW.w Z = w ∧ Le [] b Z ∧ l = [vB ao] ∧ cj ao = some r) ?_ ?_
    ·rintro _ _ σ ⟨ao, Z, rfl, i, rfl, hm⟩
     rw [ck] at hm
     have cl := f.n i
     refine cn hm (fun hm => ?_) fun hm => ?_
     ·refine Cw.seq (Cw.draw [3, 5] [(0, 0), (1, 0), (2, 1), (4, 0), (5, 1), (3, 2), (6, 2), (7, 0), (8, 2), (9, 2), (10, 0)] mixed (by kernel_rfl) fun dx aa => ?_)
      have cm := cl.n aa
      have a8 := (A.up i).up aa
      refine Dv d rfl (Dfl a8 rfl rfl rfl (Dfl a8 rfl rfl rfl (Mw.t rfl rfl (T.lit0 (α := Str) 5 []) ?_)))
      rintro dy _ ⟨dz, rfl, F, co⟩
      have cp := cm.n F
      refine m0 F fun cq => ?_
      obtain ⟨a9, ct, hm⟩ := ob hm
      refine Mw.t rfl rfl (T.appP (α := Str) co (ax.ul cp) rfl rfl ct) ?_
      rintro G _ ⟨d0, rfl, ac, ba⟩
      refine mc cq ac fun cu => Mw.p rfl rfl (fun _ => R.bd (zs := [vS ([] : Str), .slice none 0 0]) (cs := [vS x1.Path, G]) [(0, vS x1.Path), (1, G)] rfl rfl rfl (zaD rfl rfl (zaD ba.oc rfl zcU))) (Mw.t rfl rfl (T.bs 6 [.agg [vS x1.Path, G].toArray] (cs := [vS x1.Path, G]) rfl rfl (bsA rfl)) ?_)
      rintro _ _ ⟨d1, d2, rfl, rfl, H, cv⟩
      refine mc cu H fun d3 => ?_
      obtain ⟨cw, cx, ae, cy⟩ := zgW _ 5
      rw [← cx]
      have cz : Rd (α := List Str) cw [0] [G] a9 := by rw [cy]; exact ((ba.up H).rd.dye 5).sub (M := [0]) rfl
      obtain ⟨c0, c1, hm⟩ := ob hm
      refine Mw.t rfl rfl (T.app1S (α := Sh Vm.File) (K' := [0]) ((((((P.up i).up aa).up F).up ac).up H).up ae) (cv.up ae) (File.rd (K := [0]) x1.Path a9 cz).sh1 rfl rfl c1) ?_
      rintro bb _ ⟨c2, rfl, bc, c3⟩
      refine ⟨⟨_, rfl, ((F.sub (M := [3, 5]) rfl).trans ((ac.sub (M := [3, 5]) rfl).trans ((H.sub (M := [3, 5]) rfl).trans ((ae.sub (M := [3, 5]) rfl).trans (bc.sub (M := [3, 5]) rfl)))))⟩, ?_⟩
      exact Hv bb rfl (Mw.nil (rg (Nb rfl ((ag) ⟨c0, true, bb, c2, rfl, ((((((i.j aa).j F).j ac).j H).j ae).j bc).w, rfl, c3, hm⟩))))
     ·exact sk ((ag) ⟨y, O, d, Z, rfl, i.w, rfl, (P.up i), hm⟩)
    ·refine Cw.draw [] [(0, 0), (1, 0), (2, 0), (3, 0), (4, 0), (5, 0), (6, 0), (7, 1), (8, 0), (9, 1), (10, 0), (11, 0)] mixed (by kernel_rfl) fun be af => ?_
     have ap := f.n af
     refine Db rfl (Mw.p rfl rfl (fun _ => R.not rfl) (Db rfl (bs hm (fun a hm => ?_) fun a hm => ?_)))
     ·refine Wp a rfl (fun _ => R.mv (v := e) rfl) (Wp a rfl (fun _ => R.mv (v := vI z) rfl) ?_)
      obtain ⟨bg, aq, hm⟩ := ob hm
      exact Wp a rfl (fun _ => R.ix (α := File) (x.ul ap) aq rfl rfl rfl) (Wp a rfl (fun _ => R.fa rfl) (Wq a rfl (fun _ c => R.ld rfl rfl (zam (File.at0 ((x.ul ap).at_ aq)).1 rfl (File.at0 ((x.ul ap).at_ aq)).str c)) (Wp a rfl (fun _ => R.fa rfl) (Wq a rfl (fun _ c => R.ld (v := vS x1.Path) rfl rfl ((A.up af).clc rfl rfl c)) (Wp a rfl (fun _ => R.sge rfl rfl) (Mw.p rfl rfl (fun _ => R.pk a rfl (v := vB (!Op.bytesLess bg.Path x1.Path)) rfl) (Mw.nil ((ag) ⟨(!Op.bytesLess bg.Path x1.Path), be, rfl, af, rfl, hm⟩))))))))
     ·exact dps 8 a rfl (Mw.p rfl rfl (fun _ => R.pk a rfl (v := vB false) rfl) (Mw.nil ((ag) ⟨false, be, rfl, af, rfl, hm⟩)))
 ·refine Cw.exit ?_
  rw [bv] at hm
  obtain ⟨c4, c5, hm⟩ := za1 hm
  refine Cw.join 52 63 [5] (fun l w => ∃ (ar : List Vm.File) (k : Value) (ah : CW), ah.w = w ∧ Le [3, 7] b ah ∧ l = [k] ∧ Ow (α := List (Sh Vm.File)) ah 3 [0] [k] ar ∧ c4 ar = some r) ?_ ?_
  ·rintro _ _ σ ⟨ar, k, ah, rfl, c6, rfl, c7, hm⟩
   rw [c5] at hm
   have c8 := f.t c6
   refine sr (mv k rfl (Nv k rfl ?_))
   cases hm
   exact Cw.ret (zhh rfl (Res.mk c8 ⟨k, rfl, c7.s.sub rfl rfl⟩))
  ·refine sr (mb rfl (Lw.r rfl (R.not rfl) (nl (cn hm (fun hm => ?_) fun hm => ?_))))
   ·refine Cw.draw [3, 7] [(0, 0), (1, 0), (2, 1), (4, 0), (5, 1), (3, 2), (6, 2), (7, 0), (8, 2), (9, 2), (10, 0)] mixed (by kernel_rfl) fun d4 I => ?_
    have c9 := f.n I
    refine Dv d rfl (Dfl (A.up I) rfl rfl rfl (Dfl (A.up I) rfl rfl rfl (Mw.t rfl rfl (T.lit0 (α := Str) 7 []) ?_)))
    rintro d5 _ ⟨d6, rfl, J, da⟩
    have db := c9.n J
    refine m0 J fun dc => ?_
    obtain ⟨bh, dd, hm⟩ := ob hm
    refine Mw.t rfl rfl (T.appP (α := Str) da (ax.ul db) rfl rfl dd) ?_
    rintro L _ ⟨d7, rfl, ai, bi⟩
    refine mc dc ai fun de => Mw.p rfl rfl (fun _ => R.bd (zs := [vS ([] : Str), .slice none 0 0]) (cs := [vS x1.Path, L]) [(0, vS x1.Path), (1, L)] rfl rfl rfl (zaD rfl rfl (zaD bi.oc rfl zcU))) (Mw.t rfl rfl (T.bs 8 [.agg [vS x1.Path, L].toArray] (cs := [vS x1.Path, L]) rfl rfl (bsA rfl)) ?_)
    rintro _ _ ⟨d8, d9, rfl, rfl, N, df⟩
    refine mc de N fun ea => ?_
    obtain ⟨dg, dh, aj, di⟩ := zgW _ 7
    rw [← dh]
    have dj : Rd (α := List Str) dg [0] [L] bh := by rw [di]; exact ((bi.up N).rd.dye 7).sub (M := [0]) rfl
    obtain ⟨dk, dl, hm⟩ := ob hm
    refine Mw.t rfl rfl (T.app1S (α := Sh Vm.File) (K' := [0]) (((((P.up I).up J).up ai).up N).up aj) (df.up aj) (File.rd (K := [0]) x1.Path bh dj).sh1 rfl rfl dl) ?_
    rintro bj _ ⟨dm, rfl, bk, dn⟩
    refine ⟨⟨_, rfl, ((J.sub (M := [3, 7]) rfl).trans ((ai.sub (M := [3, 7]) rfl).trans ((N.sub (M := [3, 7]) rfl).trans ((aj.sub (M := [3, 7]) rfl).trans (bk.sub (M := [3, 7]) rfl)))))⟩, ?_⟩
    exact Hv bj rfl (Mw.nil ((ag) ⟨dk, bj, dm, rfl, (((((I.j J).j ai).j N).j aj).j bk).w, rfl, dn, hm⟩))
   ·exact sk ((ag) ⟨y, d, b, rfl, Le.refl _ _, rfl, P, hm⟩)
theorem p119 {x0 b x1 d k0 r} (f : Rd W K [b] x0) (h : Rd W K [vS x1.Path, d] x1) (hm : Vm.zdR x0 x1 = some r) : Q1 119 [b, .agg [vS x1.Path, d].toArray] W [] fun W' v => ∃ a, v = a ∧ Ow (α := List (Sh Vm.File)) W' k0 (0 :: K) [a] r :=
 (c119 (f.view _) (h.view _) hm).ad (fk k0) fun _ _ ⟨a, e, i⟩ => ⟨a, e, i.backS (zhf _) rfl⟩
theorem c101 {x0 b x1 d r} (e : Rd W0 [0] [b] x0) (N : Rd W0 [0] [vS x1.Path, d] x1) (hm : Vm.zc4 x0 x1 = some r) : Q0 101 [b, .agg [vS x1.Path, d].toArray] W0 fun Wf v => ∃ k, v = .tuple [k, vB r.2].toArray ∧ OwS (α := List (Sh Vm.File)) Wf LL [0] [k] r.1 := by
 unfold Vm.zc4 at hm
 obtain ⟨ap, x, O⟩ := File.split N
 simp only [List.cons.injEq, and_true, true_and] at x
 obtain rfl := x
 refine zap.of Tryz.func101 rfl rfl rfl rfl (sr (bo 2 rfl fun g1 W1 P Q => ?_))
 have y := P.o
 refine Gv (.slice none 0 0) rfl (Nb rfl (ssr (mv b rfl (ca hm (fun _ => p44 (e.ul y)) fun z4 W6 hm z => ?_))))
 have A := y.n z
 refine Lw.r rfl (R.not rfl) (nl (cn hm (fun hm => ?_) fun hm => ?_))
 ·refine sr (Gv (.slice none 0 0) rfl (Nb rfl ?_))
  cases hm
  exact Cw.ret (zis rfl rfl (Res.mk A ⟨.slice none 0 0, rfl, (zlI [0]).sub rfl rfl⟩))
 ·refine sk (Cw.seq (Cw.draw [] [(0, 0), (2, 1), (1, 2), (3, 3), (4, 0)] mixed (by kernel_rfl) fun aw l10 => ?_))
  have B := A.n l10
  refine Dv b rfl (Mw.q rfl rfl (fun _ c => R.lda (cs := [vS x1.Path, d]) (((Q.up z).up l10).clcs rfl c) rfl rfl) ?_)
  obtain ⟨S, U, hm⟩ := ob hm
  refine Mw.t rfl rfl (T.call rfl (p97 (k0 := 3) (e.ul B) U)) ?_
  rintro V _ ⟨ax, rfl, C, ⟨_, rfl, D⟩⟩
  have E := B.n C
  refine m0 C fun ay => ?_
  obtain ⟨f, W, hm⟩ := ob hm
  refine Mw.l rfl rfl (T.call rfl (p119 (K := [0, 3]) (k0 := 4) (D.rd.sub (M := [0, 3]) rfl) ((File.rd (K := [0]) x1.Path x1.Text (O.ul E)).sub (M := [0, 3]) rfl) W)) ?_
  rintro a _ ⟨F, rfl, G, ⟨_, rfl, X⟩⟩
  have H : Ow (α := List (Sh Vm.File)) F 4 [0, 3] [a] f := X.sub rfl
  have Y := E.n G
  refine Hv a rfl (Mw.nil (ssr (mv a rfl ?_)))
  have Z : Rd (α := List Vm.File) F [4, 0, 3] [a] f := Ow.rdSh H
  refine ca hm (fun _ => p44 (K := [0, 3, 4]) (Z.sub (M := [0, 3, 4]) rfl)) fun az a0 hm h => ?_
  have i := Y.n h
  refine Lw.r rfl (R.not rfl) (nl (cn hm (fun hm => ?_) fun hm => ?_))
  ·refine sr (mv b rfl (cr hm (fun _ => p97 (k0 := 5) (e.ul i)) ?_))
   rintro a1 I a3 hm aa ⟨_, rfl, ac⟩
   have ae := i.n aa
   refine Gv I rfl (Nb rfl ?_)
   obtain ⟨a4, af, ah, ai⟩ := ac.toSh
   have aj := ae.t ah
   cases hm
   rw [← af]
   exact Cw.ret (zis rfl rfl (Res.mk aj ⟨I, rfl, ai.s.sub rfl rfl⟩))
  ·refine sk (sr (mv a rfl (Gv a rfl (Nb rfl ?_))))
   obtain ⟨J, ak, am, L⟩ := zgW _ 3
   have a5 : Rd (α := List Vm.File) J [0] [V] S := by rw [L]; exact (((D.up G).up h).rd.dye 3).sub (M := [0]) rfl
   have an : Ow (α := List (Sh Vm.File)) J 4 [0] [a] f := by rw [L]; exact ((H.up h).dyeA 3 rfl).sub rfl
   have ao := i.t am
   cases hm
   rw [← ak]
   exact Cw.ret (zis rfl rfl (Res.mk ao ⟨a, rfl, an.s.sub rfl rfl⟩))
theorem p101 {x0 b x1 d k0 r} (f : Rd W K [b] x0) (h : Rd W K [vS x1.Path, d] x1) (hm : Vm.zc4 x0 x1 = some r) : Q1 101 [b, .agg [vS x1.Path, d].toArray] W [] fun W' v => ∃ a, v = .tuple [a, vB r.2].toArray ∧ Ow (α := List (Sh Vm.File)) W' k0 (0 :: K) [a] r.1 :=
 (c101 (f.view _) (h.view _) hm).ad (fk k0) fun _ _ ⟨a, e, i⟩ => ⟨a, e, i.backS (zhf _) rfl⟩
theorem c23 {x0 ah F r} (h0 : Rd W0 [0] [ah, F] x0) (hm : Vm.zbx x0 = some r) : Q0 23 [.agg [ah, F].toArray] W0 fun Wf v => v = vB r := by
 unfold Vm.zbx at hm
 obtain ⟨c2, c3, bb, ai, aj⟩ := Repo.split h0
 simp only [List.cons.injEq, and_true, true_and] at bb
 obtain ⟨rfl, rfl⟩ := bb
 refine zap.of Tryz.func23 rfl rfl rfl rfl (sr (bo 2 rfl fun g1 W1 l1 b1 => ?_))
 have a2 := l1.o
 refine Nb rfl (ssr (Ni rfl (Cw.block ?_)))
 obtain ⟨K8, b2, hm⟩ := za1 hm
 refine Cw.loop 7 66 [2, 3, 4, 5] (fun m l w => ∃ G H j5 j6 I, CW.w I = w ∧ Le [3] W1 I ∧ l = [vB G, vI H, j5, j6] ∧ Vm.zc5 x0 K8 m G H = some r) _ ⟨false, 0, undef, undef, W1, rfl, Le.refl _ _, rfl, hm⟩ ?_
 rintro (_ | m9) _ _ σ ⟨G, H, j5, j6, I, rfl, l7, rfl, hm⟩
 ·cases hm
 unfold Vm.zc5 at hm
 have V := a2.t l7
 have am := b1.up l7
 refine ssr ?_
 have an := ai.ul V
 refine mi rfl (fl am rfl (Lw.ln x0.Commits an rfl (Lw.lt rfl (nl (cn hm (fun hm => ?_) fun hm => ?_)))))
 ·refine sk (Cw.seq (Cw.block (sr (fl am rfl (mi rfl ?_)))))
  obtain ⟨ao, bh, hm⟩ := ob hm
  refine Lw.r rfl (R.ix (α := Commit) an bh rfl rfl rfl) ?_
  obtain ⟨x16, c17, _, r18⟩ := (an.at_ bh).cells
  obtain ⟨bi, c6, rfl, r20, r22⟩ := Commit.split r18
  refine Lw.r rfl (R.lda c17 rfl rfl) (al 3 [.slice none 0 0, vS ([] : Str), .slice none 0 0] fun b3 c7 bj b4 => ?_)
  have J := bj.o
  refine sta b4 (zaa r20.oc (zaa rfl (zaa r22.oc zaw))) fun bk bl b5 => ?_
  have K := bl.s
  refine nl (ssr (Ni rfl (Cw.block ?_)))
  obtain ⟨b6, b7, hm⟩ := za1 hm
  refine Cw.loop 19 50 [2, 5] (fun m l w => ∃ L x z, CW.w z = w ∧ Le [] bk z ∧ l = [vB L, vI x] ∧ Vm.zck H ao b6 m L x = some r) _ ⟨G, 0, bk, rfl, Le.refl _ _, rfl, hm⟩ ?_
  rintro (_ | c8) _ _ σ ⟨L, x, z, rfl, W, rfl, hm⟩
  ·cases hm
  unfold Vm.zck at hm
  have M := W.o
  have N := b5.up W
  refine ssr ?_
  have bm := r20.ul ((J.trans K).trans M)
  refine mi rfl (fl N rfl (Lw.ln ao.Parents bm rfl (Lw.lt rfl (nl (cn hm (fun hm => ?_) fun hm => ?_)))))
  ·refine sk (Cw.seq (Cw.block ?_))
   obtain ⟨b8, b9, hm⟩ := za1 hm
   refine Cw.join 26 50 [50] (fun l w => ∃ ap X, CW.w X = w ∧ Le [] z X ∧ l = [vB ap] ∧ b8 ap = some r) ?_ ?_
   ·rintro _ _ σ ⟨ap, X, rfl, bn, rfl, hm⟩
    rw [b9] at hm
    have cb := (((V.trans J).trans K).trans M).n bn
    refine cn hm (fun hm => ?_) fun hm => ?_
    ·exact sr (Nb rfl (.ret (rt hm cb)))
    ·exact sk (rg (mi rfl (Lw.add rfl (Ni rfl ((agm) ⟨L, w64 (x + 1), X, rfl, (W.j bn).w, rfl, hm⟩)))))
   ·refine Cw.draw [] [(0, 0), (1, 1), (2, 0), (3, 0), (4, 1), (5, 0), (6, 0), (7, 2), (8, 0), (9, 0), (10, 0), (11, 0), (12, 0), (13, 0), (14, 1), (15, 0), (16, 0), (17, 1), (18, 0), (19, 1), (20, 0), (21, 1), (22, 0), (23, 0), (24, 0)] mixed (by kernel_rfl) fun c9 O => ?_
    have cc := ((J.trans K).trans M).n O
    have aq := N.up O
    refine Dfl aq rfl rfl rfl (Di rfl ?_)
    obtain ⟨da, ar, hm⟩ := ob hm
    have i := r20.ul cc
    refine Mw.p rfl rfl (fun _ => R.ix (α := Int) i ar rfl rfl rfl) (Mw.q rfl rfl (fun _ c => R.ld rfl rfl (zam (i.at_ ar).1 rfl (i.at_ ar).int c)) (Di rfl (Mw.p rfl rfl (fun _ => R.sub rfl rfl) (Dc hm (Le.refl _ _) (fun _ => p42) rfl ?_))))
    rintro db _ au hm av rfl dc
    refine Mw.p rfl rfl (fun _ => R.not rfl) (Db rfl (bs hm (fun f hm => ?_) fun f hm => ?_))
    ·exact dps 3 f rfl (dpu 10 rfl (dps 1 f rfl (Mw.p rfl rfl (fun _ => R.pk f rfl (v := vB true) rfl) (Mw.nil ((ag) ⟨true, au, rfl, (O.j av).w, rfl, hm⟩)))))
    ·refine Wp f rfl (fun _ => R.mv (v := vI x) rfl) (Wp f rfl (fun _ => R.gt rfl rfl) (Wp f rfl (fun _ => R.mv (v := vB (decide ((0 : Int) < (x : Int)))) rfl) (bs hm (fun d hm => ?_) fun d hm => ?_)))
     ·refine Wp d rfl (fun _ => R.fa rfl) (Wq d rfl (fun _ c => R.ld (v := bi) rfl rfl (aq.clc rfl rfl c)) (Wp d rfl (fun _ => R.mv (v := vI x) rfl) ?_))
      obtain ⟨aw, ax, hm⟩ := ob hm
      refine Wp d rfl (fun _ => R.ix (α := Int) i ax rfl rfl rfl) (Wq d rfl (fun _ c => R.ld rfl rfl (zam (i.at_ ax).1 rfl (i.at_ ax).int c)) (Wp d rfl (fun _ => R.fa rfl) (Wq d rfl (fun _ c => R.ld (v := bi) rfl rfl (aq.clc rfl rfl c)) ?_)))
      obtain ⟨ay, az, hm⟩ := ob hm
      exact Wp d rfl (fun _ => R.ix (α := Int) i az rfl rfl rfl) (Wq d rfl (fun _ c => R.ld rfl rfl (zam (i.at_ az).1 rfl (i.at_ az).int c)) (Wp d rfl (fun _ => R.eq rfl rfl) (Wp f rfl (fun _ => R.pk d rfl (v := vB ((aw : Int) == (ay : Int))) rfl) (Mw.p rfl rfl (fun _ => R.pk f rfl (v := vB ((aw : Int) == (ay : Int))) rfl) (Mw.nil ((ag) ⟨((aw : Int) == (ay : Int)), au, rfl, (O.j av).w, rfl, hm⟩))))))
     ·exact dps 10 d rfl (Wp f rfl (fun _ => R.pk d rfl (v := vB false) rfl) (Mw.p rfl rfl (fun _ => R.pk f rfl (v := vB false) rfl) (Mw.nil ((ag) ⟨false, au, rfl, (O.j av).w, rfl, hm⟩))))
  ·refine Cw.exit ?_
   rw [b7] at hm
   obtain ⟨cd, ce, hm⟩ := za1 hm
   refine Cw.join 51 66 [66] (fun l w => ∃ a0 Y, CW.w Y = w ∧ Le [] z Y ∧ l = [vB a0] ∧ cd a0 = some r) ?_ ?_
   ·rintro _ _ σ ⟨a0, Y, rfl, bp, rfl, hm⟩
    rw [ce] at hm
    have cf := (((V.trans J).trans K).trans M).n bp
    refine cn hm (fun hm => ?_) fun hm => ?_
    ·exact sr (Nb rfl (.ret (rt hm cf)))
    ·exact sk (rg (mi rfl (Lw.add rfl (Ni rfl ((agm) ⟨L, w64 (H + 1), ptr (bx b3), vI x, Y, rfl, ((((l7.j bj).j bl).j W).j bp).w, rfl, hm⟩)))))
   ·refine rg (fl N rfl (Lw.ln ao.Parents bm rfl (Lw.gt rfl (mb rfl (bs hm (fun P hm => ?_) fun P hm => ?_)))))
    ·exact psk 4 P rfl (Pb P rfl (mb rfl (psk 4 rfl rfl (Pb rfl rfl (nl ((ag) ⟨true, z, rfl, Le.refl _ _, rfl, hm⟩))))))
    ·refine wak 4 P (fl N rfl (ca hm (fun _ => p43) fun dd cg hm Z => ?_))
     have ch := ((J.trans K).trans M).n Z
     refine Lw.r rfl (R.not rfl) (Pb P rfl (mb rfl (bs hm (fun Q hm => ?_) fun Q hm => ?_)))
     ·exact psk 4 Q rfl (Pb Q rfl (nl ((ag) ⟨true, cg, rfl, Z, rfl, hm⟩)))
     ·exact wak 4 Q (fl (N.up Z) rfl (ca hm (fun _ => p44 (r22.ul ch)) fun ci cj hm ck => Lw.r rfl (R.not rfl) (Pb Q rfl (nl ((ag) ⟨(!ci), cj, rfl, (Z.j ck).w, rfl, hm⟩)))))
 ·refine Cw.exit ?_
  rw [b2] at hm
  refine ssr (Ni rfl (Cw.block ?_))
  obtain ⟨cl, cm, hm⟩ := za1 hm
  refine Cw.loop 67 115 [2, 6] (fun m l w => ∃ aa k y, CW.w y = w ∧ Le [] I y ∧ l = [vB aa, vI k] ∧ Vm.zcl x0 cl m aa k = some r) _ ⟨G, 0, I, rfl, Le.refl _ _, rfl, hm⟩ ?_
  rintro (_ | de) _ _ σ ⟨aa, k, y, rfl, a1, rfl, hm⟩
  ·cases hm
  unfold Vm.zcl at hm
  have A := V.n a1
  have ac := am.up a1
  refine ssr (mi rfl (fl ac rfl (Lw.ln x0.Heads (aj.ul A) rfl (Lw.lt rfl (nl (cn hm (fun hm => ?_) fun hm => ?_))))))
  ·refine sk (Cw.seq (Cw.block ?_))
   obtain ⟨co, cp, hm⟩ := za1 hm
   refine Cw.join 74 115 [115] (fun l w => ∃ a3 ae, CW.w ae = w ∧ Le [] y ae ∧ l = [vB a3] ∧ co a3 = some r) ?_ ?_
   ·rintro _ _ σ ⟨a3, ae, rfl, bq, rfl, hm⟩
    rw [cp] at hm
    have cq := A.n bq
    refine cn hm (fun hm => ?_) fun hm => ?_
    ·exact sr (Nb rfl (.ret (rt hm cq)))
    ·exact sk (rg (mi rfl (Lw.add rfl (Ni rfl ((agm) ⟨aa, w64 (k + 1), ae, rfl, (a1.j bq).w, rfl, hm⟩)))))
   ·refine Cw.draw [] [(0, 0), (1, 1), (2, 0), (3, 0), (4, 0), (5, 1), (6, 2), (7, 0), (8, 0), (9, 0), (10, 1), (11, 0), (12, 0), (13, 0), (14, 1), (15, 0), (16, 1), (17, 0), (18, 0), (19, 2), (20, 0), (21, 0), (22, 0), (23, 0), (24, 0), (25, 0), (26, 0), (27, 1), (28, 0), (29, 0), (30, 0), (31, 1), (32, 0), (33, 1), (34, 0), (35, 0), (36, 0), (37, 0), (38, 1), (39, 0), (40, 0), (41, 0)] mixed (by kernel_rfl) fun df B => ?_
    have br := A.n B
    have S := ac.up B
    refine Dfl S rfl rfl rfl (Di rfl ?_)
    obtain ⟨dg, a4, hm⟩ := ob hm
    have e := aj.ul br
    refine Mw.p rfl rfl (fun _ => R.ix (α := Head) e a4 rfl rfl rfl) (Df rfl (Mw.q rfl rfl (fun _ c => R.ld rfl rfl (zam (Head.at0 (e.at_ a4)).1 rfl (Head.at0 (e.at_ a4)).str c)) ?_))
    obtain ⟨dh, cs, hm⟩ := ob hm
    refine Mw.t rfl rfl (T.call rfl (p43   cs)) ?_
    rintro _ _ ⟨ct, rfl, C, rfl⟩
    have cu := br.n C
    refine m0 C fun cv => Mw.p rfl rfl (fun _ => R.not rfl) (Db rfl (bs hm (fun b hm => ?_) fun b hm => ?_))
    ·exact dps 12 b rfl (Mw.p rfl rfl (fun _ => R.pk b rfl (v := vB true) rfl) (Db rfl (dps 3 rfl rfl (dpu 14 rfl (dps 1 rfl rfl (Mw.p rfl rfl (fun _ => R.pk rfl rfl (v := vB true) rfl) (Mw.nil ((ag) ⟨true, ct, rfl, (B.j C).w, rfl, hm⟩))))))))
    ·refine Wp b rfl (fun _ => R.fa rfl) (Wq b rfl (fun _ c => R.ld (v := F) rfl rfl (S.clc rfl rfl c)) (Wp b rfl (fun _ => R.mv (v := vI k) rfl) ?_))
     obtain ⟨di, a5, hm⟩ := ob hm
     refine Wp b rfl (fun _ => R.ix (α := Head) e a5 rfl rfl rfl) (Wp b rfl (fun _ => R.fa rfl) (Wq b rfl (fun _ c => R.ld rfl rfl (zam (Head.at1 (e.at_ a5)).1 rfl (Head.at1 (e.at_ a5)).int c)) (Wp b rfl (fun _ => R.fa rfl) (Wq b rfl (fun _ c => R.ld (v := ah) rfl rfl (S.clc rfl rfl c)) (Wp b rfl (fun _ => zpF (xs := x0.Commits) (ai.ul cu) rfl) (Wp b rfl (fun _ => R.sub rfl rfl) ?_))))))
     obtain ⟨cw, cx, hm⟩ := ob hm
     refine Wt b rfl (T.call rfl (p42   cx)) ?_
     rintro _ _ ⟨a6, rfl, af, rfl⟩
     refine mc cv af fun dj => Wp b rfl (fun _ => R.not rfl) (Mw.p rfl rfl (fun _ => R.pk b rfl (v := vB (!cw)) rfl) (Db rfl (bs hm (fun h hm => ?_) fun h hm => ?_)))
     ·exact dps 3 h rfl (dpu 14 rfl (dps 1 h rfl (Mw.p rfl rfl (fun _ => R.pk h rfl (v := vB true) rfl) (Mw.nil ((ag) ⟨true, a6, rfl, ((B.j C).j af).w, rfl, hm⟩)))))
     ·refine Wp h rfl (fun _ => R.mv (v := vI k) rfl) (Wp h rfl (fun _ => R.gt rfl rfl) (Wp h rfl (fun _ => R.mv (v := vB (decide ((0 : Int) < (k : Int)))) rfl) (bs hm (fun a hm => ?_) fun a hm => ?_)))
      ·refine Wp a rfl (fun _ => R.fa rfl) (Wq a rfl (fun _ c => R.ld (v := F) rfl rfl (S.clc rfl rfl c)) (Wp a rfl (fun _ => R.mv (v := vI k) rfl) ?_))
       obtain ⟨D, a7, hm⟩ := ob hm
       refine Wp a rfl (fun _ => R.ix (α := Head) e a7 rfl rfl rfl) (Wp a rfl (fun _ => R.fa rfl) (Wq a rfl (fun _ c => R.ld rfl rfl (zam (Head.at0 (e.at_ a7)).1 rfl (Head.at0 (e.at_ a7)).str c)) (Wp a rfl (fun _ => R.fa rfl) (Wq a rfl (fun _ c => R.ld (v := F) rfl rfl (S.clc rfl rfl c)) (Wp a rfl (fun _ => R.mv (v := vI k) rfl) (Wp a rfl (fun _ => R.sub rfl rfl) ?_))))))
       obtain ⟨E, a8, hm⟩ := ob hm
       exact Wp a rfl (fun _ => R.ix (α := Head) e a8 rfl rfl rfl) (Wp a rfl (fun _ => R.fa rfl) (Wq a rfl (fun _ c => R.ld rfl rfl (zam (Head.at0 (e.at_ a8)).1 rfl (Head.at0 (e.at_ a8)).str c)) (Wp a rfl (fun _ => R.sle rfl rfl) (Wp h rfl (fun _ => R.pk a rfl (v := vB (Op.bytesLess D.Name E.Name || D.Name == E.Name)) rfl) (Mw.p rfl rfl (fun _ => R.pk h rfl (v := vB (Op.bytesLess D.Name E.Name || D.Name == E.Name)) rfl) (Mw.nil ((ag) ⟨(Op.bytesLess D.Name E.Name || D.Name == E.Name), a6, rfl, ((B.j C).j af).w, rfl, hm⟩)))))))
      ·exact dps 14 a rfl (Wp h rfl (fun _ => R.pk a rfl (v := vB false) rfl) (Mw.p rfl rfl (fun _ => R.pk h rfl (v := vB false) rfl) (Mw.nil ((ag) ⟨false, a6, rfl, ((B.j C).j af).w, rfl, hm⟩))))
  ·refine Cw.exit ?_
   rw [cm] at hm
   obtain ⟨cy, cz, hm⟩ := za1 hm
   refine Cw.join 116 125 [2] (fun l w => ∃ a9 ba, CW.w ba = w ∧ Le [] y ba ∧ l = [vB a9] ∧ cy a9 = some r) ?_ ?_
   ·rintro _ _ σ ⟨a9, ba, rfl, c0, rfl, hm⟩
    rw [cz] at hm
    have c1 := A.n c0
    exact .ret (rt hm c1)
   ·refine rg (fl ac rfl (Lw.ln x0.Commits (ai.ul A) rfl (Lw.le rfl (mb rfl (bs hm (fun U hm => ?_) fun U hm => ?_)))))
    ·exact wak 4 U (fl ac rfl (Lw.ln x0.Heads (aj.ul A) rfl (Lw.le rfl (Pb U rfl (Nb rfl ((ag) ⟨decide (((x0.Heads.length : Int) : Int) ≤ (5 : Int)), y, rfl, Le.refl _ _, rfl, hm⟩))))))
    ·exact psk 4 U rfl (Pb U rfl (Nb rfl ((ag) ⟨false, y, rfl, Le.refl _ _, rfl, hm⟩)))
theorem p23 {x0 a b r} (d : Rd W K [a, b] x0) (hm : Vm.zbx x0 = some r) : Q1 23 [.agg [a, b].toArray] W [] fun W' v => v = vB r :=
 (c23 (d.view _) hm).ad (fk 0) fun _ _ e => e
theorem c77 {x0 A B r} (I : Rd W0 [0] [A, vS x0.Who, B] x0) (hm : Vm.zbO x0 = some r) : Q0 77 [.agg [A, vS x0.Who, B].toArray] W0 fun Wf v => ∃ C D, v = .agg [C, vS r.Who, D].toArray ∧ OwS Wf [31] [] [C] r.Parents ∧ OwS Wf [32] [] [D] r.Tree := by
 unfold Vm.zbO at hm
 obtain ⟨am, an, E, J, K⟩ := Commit.split I
 simp only [List.cons.injEq, and_true, true_and] at E
 obtain ⟨rfl, rfl⟩ := E
 refine zap.of Tryz.func77 rfl rfl rfl rfl (sr (bo 2 rfl fun g1 W1 L M => ?_))
 have N := L.o
 refine al 3 [.slice none 0 0, vS ([] : Str), .slice none 0 0] fun g3 W3 F O => ?_
 have P := N.n F
 refine nl (Cw.seq (Cw.draw [4] [(1, 0), (2, 1), (4, 0), (5, 1), (6, 0), (7, 1), (0, 2), (3, 2), (8, 2), (9, 0), (10, 3)] mixed (by kernel_rfl) fun W6 e => ?_))
 have Q := P.n e
 have f := (M.up F).up e
 refine Dfl f rfl rfl rfl (Dfl f rfl rfl rfl (Dfl f rfl rfl rfl (Mw.t rfl rfl (T.lit0 (α := Int) 4 []) ?_)))
 rintro av _ ⟨aw, rfl, l10, S⟩
 have G := Q.n l10
 refine m0 l10 fun U => ?_
 obtain ⟨ax, V, hm⟩ := ob hm
 refine Mw.t rfl rfl (T.appP (α := Int) S (J.ul G) rfl rfl V) ?_
 rintro a _ ⟨ay, rfl, h, W⟩
 have H := G.t h
 refine mc U h fun X => ?_
 obtain ⟨az, Y, hm⟩ := ob hm
 refine Mw.t rfl rfl (T.call rfl (p97 (k0 := 5) (K.ul H) Y)) ?_
 rintro b _ ⟨a0, rfl, d, ⟨_, rfl, i⟩⟩
 have Z := H.n d
 have k := W.up d
 refine mc X d fun a1 => Mw.p rfl rfl (fun _ => R.bd (zs := [.slice none 0 0, vS ([] : Str), .slice none 0 0]) (cs := [a, vS x0.Who, b]) [(0, a), (1, vS x0.Who), (2, b)] rfl rfl rfl (zaD k.oc rfl (zaD rfl rfl (zaD i.oc rfl zcU)))) (Mw.lu rfl (T.sta (vs := [a, vS x0.Who, b]) ((((O.up e).up l10).up h).up d) rfl rfl (zaa k.oc (zaa rfl (zaa i.oc zaw))) rfl rfl) ?_)
 rintro _ _ ⟨a3, rfl, x, aa⟩
 have ac := Z.t x
 refine Mw.nil ?_
 obtain ⟨a5, ae, y, af⟩ := (k.up x).dyeO 31
 have ah := ac.t y
 obtain ⟨a6, ai, z, aj⟩ := ((i.up x).up y).dyeO 32
 have ak := ah.t z
 cases hm
 rw [← ai.trans (ae)]
 exact Cw.ret (zke rfl ((aa.up y).up z) (Res.mk ak ⟨a, b, rfl, (af.up z).s, aj.s⟩))
theorem p77 {x0 d f k0 k1 r} (h : Rd W K [d, vS x0.Who, f] x0) (hm : Vm.zbO x0 = some r) : Q1 77 [.agg [d, vS x0.Who, f].toArray] W [] fun W' v => ∃ a b, v = .agg [a, vS r.Who, b].toArray ∧ Ow W' k0 [] [a] r.Parents ∧ Ow W' k1 [] [b] r.Tree :=
 zap.adJ (J := []) (fun c => bif Nat.beq c 0 then 0 else bif Nat.beq c 31 then k0 else bif Nat.beq c 32 then k1 else 0) (c77 (h.view _) hm) fun _ _ ⟨a, b, e, i, k⟩ => ⟨a, b, e, i.one1.backN rfl, k.one1.backN rfl⟩
theorem c59 {x0 W X r} (h0 : Rd W0 [0] [W, X] x0) (hm : Vm.zaS x0 = some r) : Q0 59 [.agg [W, X].toArray] W0 fun Wf v => ∃ Y Z, v = .agg [Y, Z].toArray ∧ OwS Wf [31] [] [Y] r.Commits ∧ OwS Wf [32] [] [Z] r.Heads := by
 unfold Vm.zaS at hm
 obtain ⟨b2, b4, aa, ac, aq⟩ := Repo.split h0
 simp only [List.cons.injEq, and_true, true_and] at aa
 obtain ⟨rfl, rfl⟩ := aa
 refine zap.of Tryz.func59 rfl rfl rfl rfl (sr (bo 2 rfl fun g1 W1 l1 b1 => ?_))
 have a2 := l1.o
 refine al 3 [.slice none 0 0, .slice none 0 0] fun g3 W3 l3 b3 => ?_
 have a4 := a2.n l3
 refine nl (sr (Lw.t rfl (T.lit0 (α := Head) 4 []) ?_))
 rintro v6 _ ⟨W6, rfl, C, o6⟩
 have a7 := a4.n C
 have b8 := (b1.up l3).up C
 refine fl b8 rfl ?_
 obtain ⟨az, a0, hm⟩ := ob hm
 refine Lw.t rfl (T.appP (α := Head) o6 (aq.ul a7) rfl rfl a0) ?_
 rintro D _ ⟨cd, rfl, E, F⟩
 have a1 := a7.t E
 refine Lw.r rfl (R.bd (zs := [.slice none 0 0, .slice none 0 0]) (cs := [.slice none 0 0, D]) [(1, D)] rfl rfl rfl (zaD F.oc rfl zcU)) (al 5 [.slice none 0 0, .slice none 0 0] fun a3 ce e a5 => ?_)
 have a6 := a1.n e
 refine sta a5 (zaa rfl (zaa (F.up e).oc zaw)) fun ai i a8 => ?_
 have a9 := a6.t i
 refine nl (ssr (Ni rfl (Cw.block ?_)))
 obtain ⟨ba, bb, hm⟩ := za1 hm
 refine Cw.loop 10 27 [4] (fun m l w => ∃ k G x y f d, CW.w d = w ∧ Le [5, 6, 7, 8] ai d ∧ l = [vI k] ∧ Ow d 6 [] [y] G ∧ Ow d 4 [] [f] x ∧ Bx d 5 a3 [y, f] ∧ Vm.zbW x0 ba m k G x = some r) _ ⟨0, ([] : List Commit), az, .slice none 0 0, D, ai, rfl, Le.refl _ _, rfl, owN 6 [], ((F.up e).up i), a8, hm⟩ ?_
 rintro (_ | cf) _ _ σ ⟨k, G, x, y, f, d, rfl, z, rfl, H, I, L, hm⟩
 ·cases hm
 unfold Vm.zbW at hm
 have M := a9.t z
 have aj := (((b8.up E).up e).up i).up z
 refine ssr (mi rfl (fl aj rfl (Lw.ln x0.Commits (ac.ul M) rfl (Lw.lt rfl (nl (cn hm (fun hm => ?_) fun hm => ?_))))))
 ·refine sk (Cw.seq (Cw.block (Cw.draw [6, 7, 8] [(0, 0), (1, 1), (2, 0), (3, 1), (4, 0), (5, 0), (6, 1), (7, 2), (8, 2), (9, 2), (10, 0), (11, 3)] mixed (by kernel_rfl) fun cg a => ?_)))
  have bc := M.n a
  refine Dfl (L.up a) rfl rfl rfl (Dfl (aj.up a) rfl rfl rfl (Di rfl ?_))
  obtain ⟨N, O, hm⟩ := ob hm
  have P := ac.ul bc
  refine Mw.p rfl rfl (fun _ => R.ix (α := Commit) P O rfl rfl rfl) ?_
  obtain ⟨x53, c54, _, r55⟩ := (P.at_ O).cells
  obtain ⟨ch, ci, rfl, r57, r59⟩ := Commit.split r55
  refine Mw.q rfl rfl (fun _ c => R.lda (zoG (P.at_ O).1 rfl c54 c) rfl rfl) (Dc hm (Le.refl _ _) (fun _ => p77 (k0 := 7) (k1 := 8) (Commit.rd (K := [0]) N.Parents N.Who N.Tree r57 r59)) rfl ?_)
  rintro h _ cj hm A ⟨ak, am, rfl, be, bg⟩ bh
  refine Mw.t rfl rfl (T.bs 9 [.agg [ak, vS h.Who, am].toArray] (cs := [ak, vS h.Who, am]) rfl rfl (bsA rfl)) ?_
  rintro _ _ ⟨ck, cl, rfl, rfl, b, bi⟩
  refine mc bh b fun bj => ?_
  obtain ⟨bk, bl, hm⟩ := ob hm
  refine Mw.t rfl rfl (T.app1 (α := Commit) (J := [7, 8]) (K' := []) (((H.up a).up A).up b) bi (Commit.own h.Parents h.Who h.Tree (be.up b).s (bg.up b).s) rfl rfl bl) ?_
  rintro an _ ⟨cm, rfl, B, ao⟩
  refine mc bj B fun co => Df rfl (Mw.lu rfl (T.st (j := 0) (v := an) ((((L.up a).up A).up b).up B) rfl rfl ao.oc rfl rfl) ?_)
  rintro _ _ ⟨bm, rfl, Q, bn⟩
  exact Mw.nil (rg (mi rfl (Lw.add rfl (Ni rfl ((agm) ⟨w64 (k + 1), bk, x, an, f, bm, rfl, (((((z.j a).j A).j b).j B).j Q).w, rfl, (ao.up Q), (((((I.up a).up A).up b).up B).up Q), bn, hm⟩)))))
 ·refine Cw.exit ?_
  rw [bb] at hm
  refine sr (la L (sta (((((b3.up C).up E).up e).up i).up z) (zaa H.oc (zaa I.oc zaw)) fun cp S bp => ?_))
  have bq := M.t S
  refine nl ?_
  obtain ⟨cq, br, U, bu⟩ := (H.up S).dyeO 31
  have bv := bq.t U
  obtain ⟨ct, bw, V, bz⟩ := ((I.up S).up U).dyeO 32
  have b0 := bv.t V
  cases hm
  rw [← bw.trans (br)]
  exact Cw.ret (zke rfl ((bp.up U).up V) (Res.mk b0 ⟨y, f, rfl, (bu.up V).s, bz.s⟩))
theorem p59 {x0 d f k0 k1 r} (h : Rd W K [d, f] x0) (hm : Vm.zaS x0 = some r) : Q1 59 [.agg [d, f].toArray] W [] fun W' v => ∃ a b, v = .agg [a, b].toArray ∧ Ow W' k0 [] [a] r.Commits ∧ Ow W' k1 [] [b] r.Heads :=
 zap.adJ (J := []) (fun c => bif Nat.beq c 0 then 0 else bif Nat.beq c 31 then k0 else bif Nat.beq c 32 then k1 else 0) (c59 (h.view _) hm) fun _ _ ⟨a, b, e, i, k⟩ => ⟨a, b, e, i.one1.backN rfl, k.one1.backN rfl⟩
end Go.Sx
