/- Walks: each function answers as its model, printed by a program of ours. Conditions: the arguments read as they are given. -/
import Derived.Test.YtokbhelngoeblaaGreatDoorCTs
import Derived.Test.YtokbhelngoeblaaGreatDoorCM8
import Derived.Test.YtokbhelngoeblaaGreatDoorCW12
import Derived.Test.YtokbhelngoeblaaGreatDoorCW16
import Derived.Test.YtokbhelngoeblaaGreatDoorCW17
import Derived.Test.YtokbhelngoeblaaGreatDoorCW3
import Derived.Test.YtokbhelngoeblaaGreatDoorCW4
namespace Go.Sx
open Go Go.Proofs Go.Vm Rp
set_option linter.unusedVariables false
set_option linter.unusedSimpArgs false
variable {W W0 : CW} {K : List Nat}
theorem c3 {x0 ar au x1 x2 r} (h0 : Rd W0 [0] [ar, au] x0) (a8 : Gl 0 W0 [0]) (hm : Vm.zfk x0 x1 x2 = some r) : Q0 3 [.agg [ar, au].toArray, vS x1, vI x2] W0 fun Wf v => v = vB r := by
 unfold Vm.zfk at hm
 obtain ⟨d7, d8, ba, Q, S⟩ := Repo.split h0
 simp only [List.cons.injEq, and_true, true_and] at ba
 obtain ⟨rfl, rfl⟩ := ba
 refine zau.of Tryz.func3 rfl rfl rfl rfl (sr (bo 2 rfl fun g1 W1 l1 b1 => ?_))
 have Z := l1.o
 refine Nb rfl (ssr (ms rfl (Lw.r rfl (R.lenS rfl) (Lw.gt rfl (nl (cn hm (fun hm => ?_) fun hm => ?_))))))
 ·exact sr (Nb rfl (.ret (rt hm Z)))
 ·refine sk (sr (Ni rfl (sr (la b1 (mi rfl (ca hm (fun _ => p11 (Repo.rd (K := [0]) x0.Commits x0.Heads (Q.ul Z) (S.ul Z))) fun z6 W8 hm l8 => ?_))))))
  have a9 := Z.n l8
  refine Ni rfl (ssr (mi rfl (Lw.lt rfl (nl (cn hm (fun hm => ?_) fun hm => ?_)))))
  ·exact sr (Nb rfl (.ret (rt hm a9)))
  ·refine sk (sr (la (b1.up l8) (cr hm (fun _ => p13 (k0 := 3) (k1 := 4) (Repo.rd (K := [0]) x0.Commits x0.Heads (Q.ul a9) (S.ul a9))) ?_)))
   rintro ac _ ed hm bb ⟨ee, ef, rfl, cq, ct⟩
   have cu := a9.n bb
   refine ms rfl (mi rfl (cr hm (fun _ => p12 (K := [3, 4]) (x0 := (Vm.Repo.mk ac.Commits ac.Heads)) (Repo.rd (K := [3, 4]) ac.Commits ac.Heads (cq.rd.sub (M := [3, 4]) rfl) (ct.rd.sub (M := [3, 4]) rfl))) ?_))
   rintro f _ eg hm bc ⟨ae, af, rfl, cv, cw⟩
   have ah := cv.sub (M := [0, 3, 4]) rfl
   have ai := cw.sub (M := [0, 3, 4]) rfl
   have cx := cu.n bc
   refine mv (.tuple [.agg [ae, af].toArray, vI f.2].toArray) rfl (Lw.r rfl (R.ext (vs := [.agg [ae, af].toArray, vI f.2]) (v := .agg [ae, af].toArray) rfl rfl) (Lw.r rfl (R.ext (vs := [.agg [ae, af].toArray, vI f.2]) (v := vI f.2) rfl rfl) (al 5 [.slice none 0 0, .slice none 0 0] fun eh ei H cy => ?_)))
   have cz := cx.n H
   refine sta cy (zaa ah.oc (zaa ai.oc zaF)) fun ej I c2 => ?_
   have ax := cz.t I
   have be := ((((b1.up l8).up bb).up bc).up H).up I
   refine Ni rfl (sr (la be (cr hm (fun _ => p13 (k0 := 6) (k1 := 7) (Repo.rd (K := [0]) x0.Commits x0.Heads (Q.ul ax) (S.ul ax))) ?_)))
   rintro B _ ek hm D ⟨c4, c5, rfl, bg, bh⟩
   have c6 := ax.n D
   refine al 8 [.slice none 0 0, .slice none 0 0] fun el em h c7 => ?_
   have c8 := c6.n h
   refine sta c7 (zaa (bg.up h).oc (zaa (bh.up h).oc zaF)) fun en z bi => ?_
   have bj := c8.t z
   have bk := (bg.up h).up z
   have bl := (bh.up h).up z
   refine nl (sr (la bi (ms rfl (mi rfl (cr hm (fun _ => p14 (K := [0, 6, 7]) (k0 := 9) (k1 := 10) (x0 := (Vm.Repo.mk B.Commits B.Heads)) ((Repo.rd (K := [6, 7]) B.Commits B.Heads (bk.rd.sub (M := [6, 7]) rfl) (bl.rd.sub (M := [6, 7]) rfl)).sub (M := [0, 6, 7]) rfl) ((a8.ul bj).sub (M := [0, 6, 7]) rfl)) ?_)))))
   rintro a _ eo hm y ⟨aj, ak, rfl, bm, bn⟩
   have c9 := bj.n y
   refine mv (.tuple [.agg [aj, ak].toArray, vI a.2].toArray) rfl (Lw.r rfl (R.ext (vs := [.agg [aj, ak].toArray, vI a.2]) (v := .agg [aj, ak].toArray) rfl rfl) (Lw.r rfl (R.ext (vs := [.agg [aj, ak].toArray, vI a.2]) (v := vI a.2) rfl rfl) (al 11 [.slice none 0 0, .slice none 0 0] fun ep er b da => ?_)))
   have db := c9.n b
   refine sta da (zaa (bm.up b).oc (zaa (bn.up b).oc zaF)) fun dc d bp => ?_
   have dd := db.t d
   have bq := (bm.up b).up d
   have br := (bn.up b).up d
   have bu := (((((c2.up D).up h).up z).up y).up b).up d
   refine Ni rfl (Cw.seq ?_)
   obtain ⟨de, df, hm⟩ := zbk hm
   refine Cw.join 43 51 [51] (fun l w => ∃ ay az, CW.w az = w ∧ Le [] dc az ∧ l = [vB ay] ∧ de ay = some r) ?_ ?_
   ·rintro _ _ σ ⟨ay, az, rfl, i, rfl, hm⟩
    rw [df] at hm
    have bv := dd.n i
    refine cn hm (fun hm => ?_) fun hm => ?_
    ·exact sr (Nb rfl (.ret (rt hm bv)))
    ·refine sk (Cw.seq (Cw.seq (Cw.draw [] [(0, 1), (1, 1), (2, 2), (3, 3), (4, 0)] mixed (by kernel_rfl) fun es k => ?_)))
     have a0 := bv.n k
     have bw := (((((((be.up D).up h).up z).up y).up b).up d).up i).up k
     have bz := ((((bi.up y).up b).up d).up i).up k
     refine Mw.q rfl rfl (fun _ c => R.lda (cs := [c4, c5]) (bz.clcs rfl c) rfl rfl) (Mw.q rfl rfl (fun _ c => R.lda (cs := [ar, au]) (bw.clcs rfl c) rfl rfl) ?_)
     obtain ⟨am, dg, hm⟩ := ob hm
     refine Mw.t rfl rfl (T.call rfl (p13 (k0 := 12) (k1 := 13) (Repo.rd (K := [0]) x0.Commits x0.Heads (Q.ul a0) (S.ul a0)) dg)) ?_
     rintro _ _ ⟨et, rfl, e, ⟨eu, ew, rfl, dh, di⟩⟩
     have dj := a0.n e
     have b0 := (((((bk.up y).up b).up d).up i).up k).up e
     have b2 := (((((bl.up y).up b).up d).up i).up k).up e
     refine m0 e fun ex => ?_
     obtain ⟨ey, dk, hm⟩ := ob hm
     refine Mw.l rfl rfl (T.call rfl (p15 (K := [6, 7, 12, 13])  (x0 := (Vm.Repo.mk B.Commits B.Heads)) (x1 := (Vm.Repo.mk am.Commits am.Heads)) ((Repo.rd (K := [6, 7]) B.Commits B.Heads (b0.rd.sub (M := [6, 7]) rfl) (b2.rd.sub (M := [6, 7]) rfl)).sub (M := [6, 7, 12, 13]) rfl) ((Repo.rd (K := [12, 13]) am.Commits am.Heads (dh.rd.sub (M := [12, 13]) rfl) (di.rd.sub (M := [12, 13]) rfl)).sub (M := [6, 7, 12, 13]) rfl) dk)) ?_
     rintro _ _ ⟨ez, rfl, x, rfl⟩
     have b3 := dj.n x
     refine Mw.p rfl rfl (fun _ => R.not rfl) (Mw.nil (cn hm (fun hm => ?_) fun hm => ?_))
     ·exact sr (Nb rfl (.ret (rt hm b3)))
     ·refine sk (sr (Ni rfl (sr (la ((bz.up e).up x) (mi rfl (cr hm (fun _ => p16 (K := [0]) (c0 := 6) (c1 := 7) (x0 := (Vm.Repo.mk B.Commits B.Heads)) (b0.up x) (b2.up x) rfl) ?_))))))
      rintro e0 _ b4 hm C ⟨rfl, e1, e2⟩
      have dl := b3.t C
      have b5 := ((((bq.up i).up k).up e).up x).up C
      have b6 := ((((br.up i).up k).up e).up x).up C
      have b7 := ((((bu.up i).up k).up e).up x).up C
      have a1 := ((((bp.up i).up k).up e).up x).up C
      refine Ni rfl (Cw.seq ?_)
      obtain ⟨dm, dn, hm⟩ := zbk hm
      refine Cw.join 60 72 [72] (fun l w => ∃ a3 a4, CW.w a4 = w ∧ Le [] b4 a4 ∧ l = [vB a3] ∧ dm a3 = some r) ?_ ?_
      ·rintro _ _ σ ⟨a3, a4, rfl, E, rfl, hm⟩
       rw [dn] at hm
       have b8 := dl.n E
       refine cn hm (fun hm => ?_) fun hm => ?_
       ·exact sr (Nb rfl (.ret (rt hm b8)))
       ·refine sk (sr (Ni rfl (sr (la (a1.up E) (mi rfl (cr hm (fun _ => p16 (K := [0]) (c0 := 9) (c1 := 10) (x0 := (Vm.Repo.mk a.1.Commits a.1.Heads)) (b5.up E) (b6.up E) rfl) ?_))))))
        rintro J _ e3 hm P ⟨rfl, b9, cb⟩
        have dp := b8.t P
        have cc := (a1.up E).up P
        refine Ni rfl (sr (Ni rfl (sr (la cc (mi rfl (ca hm (fun _ => p17 (K := [9, 10]) (x0 := (Vm.Repo.mk J.2.Commits J.2.Heads)) (Repo.rd (K := [9, 10]) J.2.Commits J.2.Heads (b9.rd.sub (M := [9, 10]) rfl) (cb.rd.sub (M := [9, 10]) rfl))) fun e4 e5 hm L => ?_))))))
        have U := dp.n L
        refine Ni rfl (ssr (mi rfl (Lw.lt rfl (nl (cn hm (fun hm => ?_) fun hm => ?_)))))
        ·exact sr (Nb rfl (.ret (rt hm U)))
        ·refine sk (ssr (mi rfl (mi rfl (Lw.ne rfl (nl (cn hm (fun hm => ?_) fun hm => ?_))))))
         ·exact sr (Nb rfl (.ret (rt hm U)))
         ·refine sk (sr (la ((((((bw.up e).up x).up C).up E).up P).up L) (cr hm (fun _ => p13 (k0 := 14) (k1 := 15) (Repo.rd (K := [0]) x0.Commits x0.Heads (Q.ul U) (S.ul U))) ?_)))
          rintro an _ e6 hm N ⟨e7, e8, rfl, dq, dr⟩
          have cd := U.n N
          refine ms rfl (mi rfl (cr hm (fun _ => p14 (K := [0, 14, 15]) (k0 := 16) (k1 := 17) (x0 := (Vm.Repo.mk an.Commits an.Heads)) ((Repo.rd (K := [14, 15]) an.Commits an.Heads (dq.rd.sub (M := [14, 15]) rfl) (dr.rd.sub (M := [14, 15]) rfl)).sub (M := [0, 14, 15]) rfl) ((a8.ul cd).sub (M := [0, 14, 15]) rfl)) ?_))
          rintro F _ e9 hm O ⟨ao, ap, rfl, ce, cf⟩
          have ds := cd.n O
          refine mv (.tuple [.agg [ao, ap].toArray, vI F.2].toArray) rfl (Lw.r rfl (R.ext (vs := [.agg [ao, ap].toArray, vI F.2]) (v := .agg [ao, ap].toArray) rfl rfl) (Lw.r rfl (R.ext (vs := [.agg [ao, ap].toArray, vI F.2]) (v := vI F.2) rfl rfl) (al 18 [.slice none 0 0, .slice none 0 0] fun fb fc A dt => ?_)))
          have du := ds.n A
          refine sta dt (zaa (ce.up A).oc (zaa (cf.up A).oc zaF)) fun dv G dw => ?_
          have dx := du.t G
          refine Ni rfl (Cw.seq ?_)
          obtain ⟨dy, dz, hm⟩ := zbk hm
          refine Cw.join 92 100 [100] (fun l w => ∃ a5 a6, CW.w a6 = w ∧ Le [] dv a6 ∧ l = [vB a5] ∧ dy a5 = some r) ?_ ?_
          ·rintro _ _ σ ⟨a5, a6, rfl, aq, rfl, hm⟩
           rw [dz] at hm
           have cg := dx.n aq
           refine cn hm (fun hm => ?_) fun hm => ?_
           ·exact sr (Nb rfl (.ret (rt hm cg)))
           ·refine sk (sr (Ni rfl (sr (la ((((((cc.up L).up N).up O).up A).up G).up aq) (mi rfl (ca hm (fun _ => p17 (K := [9, 10]) (x0 := (Vm.Repo.mk J.2.Commits J.2.Heads)) (Repo.rd (K := [9, 10]) J.2.Commits J.2.Heads (((((((b9.up L).up N).up O).up A).up G).up aq).rd.sub (M := [9, 10]) rfl) (((((((cb.up L).up N).up O).up A).up G).up aq).rd.sub (M := [9, 10]) rfl))) fun fd fe hm d0 => ?_))))))
            have a7 := cg.n d0
            refine Ni rfl (ssr (mi rfl (Lw.lt rfl (nl (cn hm (fun hm => ?_) fun hm => ?_)))))
            ·exact sr (Nb rfl (.ret (rt hm a7)))
            ·refine sk (ssr (mi rfl (mi rfl (Lw.ne rfl (nl (cn hm (fun hm => ?_) fun hm => ?_))))))
             ·exact sr (Nb rfl (.ret (rt hm a7)))
             ·exact sk (sr (Nb rfl (.ret (rt hm a7))))
          ·refine rg (la dw (la (((((((b7.up E).up P).up L).up N).up O).up A).up G) ?_))
           have d1 := ah.up ((H.sub (M := [5, 6, 7, 8, 9, 10, 11, 18]) rfl).trans ((I.sub (M := [5, 6, 7, 8, 9, 10, 11, 18]) rfl).trans ((D.sub (M := [5, 6, 7, 8, 9, 10, 11, 18]) rfl).trans ((h.sub (M := [5, 6, 7, 8, 9, 10, 11, 18]) rfl).trans ((z.sub (M := [5, 6, 7, 8, 9, 10, 11, 18]) rfl).trans ((y.sub (M := [5, 6, 7, 8, 9, 10, 11, 18]) rfl).trans ((b.sub (M := [5, 6, 7, 8, 9, 10, 11, 18]) rfl).trans ((d.sub (M := [5, 6, 7, 8, 9, 10, 11, 18]) rfl).trans ((i.sub (M := [5, 6, 7, 8, 9, 10, 11, 18]) rfl).trans ((k.sub (M := [5, 6, 7, 8, 9, 10, 11, 18]) rfl).trans ((e.sub (M := [5, 6, 7, 8, 9, 10, 11, 18]) rfl).trans ((x.sub (M := [5, 6, 7, 8, 9, 10, 11, 18]) rfl).trans ((C.sub (M := [5, 6, 7, 8, 9, 10, 11, 18]) rfl).trans ((E.sub (M := [5, 6, 7, 8, 9, 10, 11, 18]) rfl).trans ((P.sub (M := [5, 6, 7, 8, 9, 10, 11, 18]) rfl).trans ((L.sub (M := [5, 6, 7, 8, 9, 10, 11, 18]) rfl).trans ((N.sub (M := [5, 6, 7, 8, 9, 10, 11, 18]) rfl).trans ((O.sub (M := [5, 6, 7, 8, 9, 10, 11, 18]) rfl).trans ((A.sub (M := [5, 6, 7, 8, 9, 10, 11, 18]) rfl).trans (G.sub (M := [5, 6, 7, 8, 9, 10, 11, 18]) rfl)))))))))))))))))))) rfl
           have d2 := ai.up ((H.sub (M := [5, 6, 7, 8, 9, 10, 11, 18]) rfl).trans ((I.sub (M := [5, 6, 7, 8, 9, 10, 11, 18]) rfl).trans ((D.sub (M := [5, 6, 7, 8, 9, 10, 11, 18]) rfl).trans ((h.sub (M := [5, 6, 7, 8, 9, 10, 11, 18]) rfl).trans ((z.sub (M := [5, 6, 7, 8, 9, 10, 11, 18]) rfl).trans ((y.sub (M := [5, 6, 7, 8, 9, 10, 11, 18]) rfl).trans ((b.sub (M := [5, 6, 7, 8, 9, 10, 11, 18]) rfl).trans ((d.sub (M := [5, 6, 7, 8, 9, 10, 11, 18]) rfl).trans ((i.sub (M := [5, 6, 7, 8, 9, 10, 11, 18]) rfl).trans ((k.sub (M := [5, 6, 7, 8, 9, 10, 11, 18]) rfl).trans ((e.sub (M := [5, 6, 7, 8, 9, 10, 11, 18]) rfl).trans ((x.sub (M := [5, 6, 7, 8, 9, 10, 11, 18]) rfl).trans ((C.sub (M := [5, 6, 7, 8, 9, 10, 11, 18]) rfl).trans ((E.sub (M := [5, 6, 7, 8, 9, 10, 11, 18]) rfl).trans ((P.sub (M := [5, 6, 7, 8, 9, 10, 11, 18]) rfl).trans ((L.sub (M := [5, 6, 7, 8, 9, 10, 11, 18]) rfl).trans ((N.sub (M := [5, 6, 7, 8, 9, 10, 11, 18]) rfl).trans ((O.sub (M := [5, 6, 7, 8, 9, 10, 11, 18]) rfl).trans ((A.sub (M := [5, 6, 7, 8, 9, 10, 11, 18]) rfl).trans (G.sub (M := [5, 6, 7, 8, 9, 10, 11, 18]) rfl)))))))))))))))))))) rfl
           refine ca hm (fun _ => p15 (K := [0, 3, 4, 16, 17]) (x0 := (Vm.Repo.mk F.1.Commits F.1.Heads)) ((Repo.rd (K := [16, 17]) F.1.Commits F.1.Heads (((ce.up A).up G).rd.sub (M := [16, 17]) rfl) (((cf.up A).up G).rd.sub (M := [16, 17]) rfl)).sub (M := [0, 3, 4, 16, 17]) rfl) ((Repo.rd (K := [0, 3, 4]) f.1.Commits f.1.Heads d1 d2).sub (M := [0, 3, 4, 16, 17]) rfl)) fun ff ch hm ci => Lw.r rfl (R.not rfl) (mb rfl (bs hm (fun V hm => ?_) fun V hm => ?_))
           ·exact psk 3 V rfl (Pb V rfl (nl ((ag) ⟨true, ch, rfl, ci, rfl, hm⟩)))
           ·exact wak 3 V (mi rfl (mi rfl (Lw.ne rfl (Pb V rfl (nl ((ag) ⟨((F.2 : Int) != (f.2 : Int)), ch, rfl, ci, rfl, hm⟩))))))
      ·refine rg (mi rfl (Lw.lt rfl (mb rfl (bs hm (fun W hm => ?_) fun W hm => ?_))))
       ·exact psk 4 W rfl (Pb W rfl (mb rfl (psk 3 rfl rfl (Pb rfl rfl (nl ((ag) ⟨true, b4, rfl, Le.refl _ _, rfl, hm⟩))))))
       ·refine wak 4 W (la a1 (la b7 ?_))
        have d3 := ah.up ((H.sub (M := [5, 6, 7, 8, 11]) rfl).trans ((I.sub (M := [5, 6, 7, 8, 11]) rfl).trans ((D.sub (M := [5, 6, 7, 8, 11]) rfl).trans ((h.sub (M := [5, 6, 7, 8, 11]) rfl).trans ((z.sub (M := [5, 6, 7, 8, 11]) rfl).trans ((y.sub (M := [5, 6, 7, 8, 11]) rfl).trans ((b.sub (M := [5, 6, 7, 8, 11]) rfl).trans ((d.sub (M := [5, 6, 7, 8, 11]) rfl).trans ((i.sub (M := [5, 6, 7, 8, 11]) rfl).trans ((k.sub (M := [5, 6, 7, 8, 11]) rfl).trans ((e.sub (M := [5, 6, 7, 8, 11]) rfl).trans ((x.sub (M := [5, 6, 7, 8, 11]) rfl).trans (C.sub (M := [5, 6, 7, 8, 11]) rfl))))))))))))) rfl
        have d4 := ai.up ((H.sub (M := [5, 6, 7, 8, 11]) rfl).trans ((I.sub (M := [5, 6, 7, 8, 11]) rfl).trans ((D.sub (M := [5, 6, 7, 8, 11]) rfl).trans ((h.sub (M := [5, 6, 7, 8, 11]) rfl).trans ((z.sub (M := [5, 6, 7, 8, 11]) rfl).trans ((y.sub (M := [5, 6, 7, 8, 11]) rfl).trans ((b.sub (M := [5, 6, 7, 8, 11]) rfl).trans ((d.sub (M := [5, 6, 7, 8, 11]) rfl).trans ((i.sub (M := [5, 6, 7, 8, 11]) rfl).trans ((k.sub (M := [5, 6, 7, 8, 11]) rfl).trans ((e.sub (M := [5, 6, 7, 8, 11]) rfl).trans ((x.sub (M := [5, 6, 7, 8, 11]) rfl).trans (C.sub (M := [5, 6, 7, 8, 11]) rfl))))))))))))) rfl
        refine ca hm (fun _ => p15 (K := [0, 3, 4, 9, 10]) (x0 := (Vm.Repo.mk a.1.Commits a.1.Heads)) ((Repo.rd (K := [9, 10]) a.1.Commits a.1.Heads (b5.rd.sub (M := [9, 10]) rfl) (b6.rd.sub (M := [9, 10]) rfl)).sub (M := [0, 3, 4, 9, 10]) rfl) ((Repo.rd (K := [0, 3, 4]) f.1.Commits f.1.Heads d3 d4).sub (M := [0, 3, 4, 9, 10]) rfl)) fun fg cj hm ck => Lw.r rfl (R.not rfl) (Pb W rfl (mb rfl (bs hm (fun X hm => ?_) fun X hm => ?_)))
        ·exact psk 3 X rfl (Pb X rfl (nl ((ag) ⟨true, cj, rfl, ck, rfl, hm⟩)))
        ·exact wak 3 X (mi rfl (mi rfl (Lw.ne rfl (Pb X rfl (nl ((ag) ⟨((a.2 : Int) != (f.2 : Int)), cj, rfl, ck, rfl, hm⟩))))))
   ·refine rg (la bp (la bu ?_))
    have d5 := ah.up ((H.sub (M := [5, 8, 11]) rfl).trans ((I.sub (M := [5, 8, 11]) rfl).trans ((D.sub (M := [5, 8, 11]) rfl).trans ((h.sub (M := [5, 8, 11]) rfl).trans ((z.sub (M := [5, 8, 11]) rfl).trans ((y.sub (M := [5, 8, 11]) rfl).trans ((b.sub (M := [5, 8, 11]) rfl).trans (d.sub (M := [5, 8, 11]) rfl)))))))) rfl
    have d6 := ai.up ((H.sub (M := [5, 8, 11]) rfl).trans ((I.sub (M := [5, 8, 11]) rfl).trans ((D.sub (M := [5, 8, 11]) rfl).trans ((h.sub (M := [5, 8, 11]) rfl).trans ((z.sub (M := [5, 8, 11]) rfl).trans ((y.sub (M := [5, 8, 11]) rfl).trans ((b.sub (M := [5, 8, 11]) rfl).trans (d.sub (M := [5, 8, 11]) rfl)))))))) rfl
    refine ca hm (fun _ => p15 (K := [0, 3, 4, 9, 10]) (x0 := (Vm.Repo.mk a.1.Commits a.1.Heads)) ((Repo.rd (K := [9, 10]) a.1.Commits a.1.Heads (bq.rd.sub (M := [9, 10]) rfl) (br.rd.sub (M := [9, 10]) rfl)).sub (M := [0, 3, 4, 9, 10]) rfl) ((Repo.rd (K := [0, 3, 4]) f.1.Commits f.1.Heads d5 d6).sub (M := [0, 3, 4, 9, 10]) rfl)) fun fh cl hm cm => Lw.r rfl (R.not rfl) (mb rfl (bs hm (fun Y hm => ?_) fun Y hm => ?_))
    ·exact psk 3 Y rfl (Pb Y rfl (nl ((ag) ⟨true, cl, rfl, cm, rfl, hm⟩)))
    ·exact wak 3 Y (mi rfl (mi rfl (Lw.ne rfl (Pb Y rfl (nl ((ag) ⟨((a.2 : Int) != (f.2 : Int)), cl, rfl, cm, rfl, hm⟩))))))
theorem p3 {x0 a b x1 x2 r} (d : Rd W K [a, b] x0) (f : Gl 0 W K) (hm : Vm.zfk x0 x1 x2 = some r) : Q1 3 [.agg [a, b].toArray, vS x1, vI x2] W [] fun W' v => v = vB r :=
 (c3 (d.view _) (f.view _) hm).ad (fk 0) fun _ _ e => e
end Go.Sx
