/- Walks: each function answers as its model, printed by a program of ours. Conditions: the arguments read as they are given. -/
import Derived.Test.YtokbhelngoeblaaGreatDoorGTs
import Derived.Test.YtokbhelngoeblaaGreatDoorGM2
import Derived.Test.YtokbhelngoeblaaGreatDoorGW0
import Derived.Test.YtokbhelngoeblaaGreatDoorGW10
import Derived.Test.YtokbhelngoeblaaGreatDoorGW12
import Derived.Test.YtokbhelngoeblaaGreatDoorGW13
import Derived.Test.YtokbhelngoeblaaGreatDoorGW2
import Derived.Test.YtokbhelngoeblaaGreatDoorGW3
namespace Go.Sx
open Go Go.Proofs Go.Vm Rp
set_option linter.unusedVariables false
set_option linter.unusedSimpArgs false
variable {W W0 : CW} {K : List Nat}
theorem c5 {x0 ae af x1 Q x2 ah r} (h0 : Rd W0 [0] [ae, af] x0) (h1 : Rd W0 [0] [Q] x1) (h2 : Rd W0 [0] [vS x2.Branch, vS x2.Into, vS x2.By, ah] x2) (b0 : Gl 0 W0 [0]) (hm : Vm.zcC x0 x1 x2 = some r) : Q0 5 [.agg [ae, af].toArray, Q, .agg [vS x2.Branch, vS x2.Into, vS x2.By, ah].toArray] W0 fun Wf v => v = vB r := by
 unfold Vm.zcC at hm
 obtain ⟨fr, fs, b2, aj, ak⟩ := Repo.split h0
 simp only [List.cons.injEq, and_true, true_and] at b2
 obtain ⟨rfl, rfl⟩ := b2
 obtain ⟨ft, b4, am⟩ := Review.split h2
 simp only [List.cons.injEq, and_true, true_and] at b4
 obtain rfl := b4
 refine zaj.of Tryz.func5 rfl rfl rfl rfl (sr (bo 2 rfl fun g1 W1 l1 b1 => ?_))
 have a2 := l1.o
 refine bo 3 rfl fun g3 W3 l3 b3 => ?_
 have a4 := a2.n l3
 refine Nb rfl (sr (Ni rfl (sr (la (b1.up l3) (mi rfl (ca hm (fun _ => p11 (Repo.rd (K := [0]) x0.Commits x0.Heads (aj.ul a4) (ak.ul a4))) fun z8 fz hm l10 => ?_))))))
 have a8 := a4.n l10
 refine Ni rfl (ssr (mi rfl (Lw.lt rfl (nl (cn hm (fun hm => ?_) fun hm => ?_)))))
 ·exact sr (Nb rfl (.ret (rt hm a8)))
 ·refine sk (sr (mv Q rfl (mi rfl (ca hm (fun _ => p25 (h1.ul a8)) fun f0 f1 hm a9 => ?_))))
  have ba := a8.n a9
  have b6 := (b3.up l10).up a9
  refine Ni rfl (ssr (mi rfl (Lw.lt rfl (nl (cn hm (fun hm => ?_) fun hm => ?_)))))
  ·exact sr (Nb rfl (.ret (rt hm ba)))
  ·refine sk (sr (la b6 (mi rfl (ca hm (fun _ => p26 (Review.rd (K := [0]) x2.Branch x2.Into x2.By x2.Yes (am.ul ba))) fun f2 f3 hm bb => ?_))))
   have b7 := ba.n bb
   refine Ni rfl (ssr (mi rfl (Lw.lt rfl (nl (cn hm (fun hm => ?_) fun hm => ?_)))))
   ·exact sr (Nb rfl (.ret (rt hm b7)))
   ·refine sk (Cw.seq (Cw.draw [] [(0, 1), (2, 0), (4, 1), (1, 2), (3, 2), (5, 2), (6, 3), (7, 0), (8, 0), (9, 0), (10, 0), (11, 0)] mixed (by kernel_rfl) fun f4 bc => ?_))
    have be := b7.n bc
    have b8 := ((((b1.up l3).up l10).up a9).up bb).up bc
    have b9 := (b6.up bb).up bc
    refine Mw.q rfl rfl (fun _ c => R.lda (cs := [ae, af]) (b8.clcs rfl c) rfl rfl) (Dv Q rfl (Mw.q rfl rfl (fun _ c => R.lda (cs := [vS x2.Branch, vS x2.Into, vS x2.By, ah]) (b9.clcs rfl c) rfl rfl) ?_))
    obtain ⟨ax, dv, hm⟩ := ob hm
    refine Mw.t rfl rfl (T.call rfl (p13 (k0 := 4) (k1 := 5) (Repo.rd (K := [0]) x0.Commits x0.Heads (aj.ul be) (ak.ul be)) dv)) ?_
    rintro _ _ ⟨f5, rfl, ay, ⟨f6, f7, rfl, dw, dx⟩⟩
    have cb := be.n ay
    refine m0 ay fun dy => ?_
    obtain ⟨f8, dz, hm⟩ := ob hm
    refine Mw.t rfl rfl (T.call rfl (p28 (k0 := 6) (h1.ul cb) dz)) ?_
    rintro f9 _ ⟨ga, rfl, W, ⟨_, rfl, d0⟩⟩
    have cc := cb.n W
    refine mc dy W fun d1 => ?_
    obtain ⟨I, d2, hm⟩ := ob hm
    refine Mw.t rfl rfl (T.call rfl (p29 (k0 := 7) (Review.rd (K := [0]) x2.Branch x2.Into x2.By x2.Yes (am.ul cc)) d2)) ?_
    rintro _ _ ⟨gb, rfl, S, ⟨gc, rfl, d3⟩⟩
    have d4 := cc.n S
    refine mc d1 S fun gd => ?_
    obtain ⟨U, d5, hm⟩ := ob hm
    refine Mw.l rfl rfl (T.call rfl (p27 (K := [4, 5, 6, 7])  (x0 := (Vm.Repo.mk ax.Commits ax.Heads)) (x2 := (Vm.Review.mk I.Branch I.Into I.By I.Yes)) ((Repo.rd (K := [4, 5]) ax.Commits ax.Heads (((dw.up W).up S).rd.sub (M := [4, 5]) rfl) (((dx.up W).up S).rd.sub (M := [4, 5]) rfl)).sub (M := [4, 5, 6, 7]) rfl) ((d0.up S).rd.sub (M := [4, 5, 6, 7]) rfl) ((Review.rd (K := [7]) I.Branch I.Into I.By I.Yes d3.rd).sub (M := [4, 5, 6, 7]) rfl) d5)) ?_
    rintro _ _ ⟨gf, rfl, bg, ⟨J, rfl, d6⟩⟩
    have bh := d6.sub (M := [0, 4, 5, 6, 7]) rfl
    have bi := d4.n bg
    have cd := (((b8.up ay).up W).up S).up bg
    refine Dv (.tuple [J, vB U.2].toArray) rfl (Mw.p rfl rfl (fun _ => R.ext (vs := [J, vB U.2]) (v := J) rfl rfl) (Mw.p rfl rfl (fun _ => R.ext (vs := [J, vB U.2]) (v := vB U.2) rfl rfl) (Hv J rfl (Hb rfl (Mw.nil (sr (la cd (cr hm (fun _ => p13 (k0 := 8) (k1 := 9) (Repo.rd (K := [0]) x0.Commits x0.Heads (aj.ul bi) (ak.ul bi))) ?_))))))))
    rintro C _ gg hm X ⟨d7, d8, rfl, ce, cf⟩
    have d9 := bi.n X
    refine al 10 [.slice none 0 0, .slice none 0 0] fun gh gj D ea => ?_
    have eb := d9.n D
    refine sta ea (zaa (ce.up D).oc (zaa (cf.up D).oc zaR)) fun gk L ec => ?_
    have cg := eb.t L
    refine nl (sr (mv Q rfl (cr hm (fun _ => p28 (k0 := 11) (h1.ul cg)) ?_)))
    rintro gm az gn hm G ⟨_, rfl, ed⟩
    have ch := cg.n G
    have ci := (((((((b9.up ay).up W).up S).up bg).up X).up D).up L).up G
    refine Nv az rfl (sr (la ci (cr hm (fun _ => p29 (k0 := 12) (Review.rd (K := [0]) x2.Branch x2.Into x2.By x2.Yes (am.ul ch))) ?_)))
    rintro a _ go hm E ⟨ee, rfl, cj⟩
    have ef := ch.n E
    refine al 13 [vS ([] : Str), vS ([] : Str), vS ([] : Str), .slice none 0 0] fun gr gs e eg => ?_
    have eh := ef.n e
    refine sta eg (zaa rfl (zaa rfl (zaa rfl (zaa (cj.up e).oc zaR)))) fun gu B ck => ?_
    have cl := eh.t B
    have cm := (((((ce.up D).up L).up G).up E).up e).up B
    have co := (((((cf.up D).up L).up G).up E).up e).up B
    have cp := ((ed.up E).up e).up B
    have cq := (cj.up e).up B
    have ct := (((ec.up G).up E).up e).up B
    refine nl (sr (la ct (mv az rfl (la ck (cr hm (fun _ => p30 (K := [0, 8, 9, 11, 12]) (k0 := 14) (x0 := (Vm.Repo.mk C.Commits C.Heads)) (x2 := (Vm.Review.mk a.Branch a.Into a.By a.Yes)) ((Repo.rd (K := [8, 9]) C.Commits C.Heads (cm.rd.sub (M := [8, 9]) rfl) (co.rd.sub (M := [8, 9]) rfl)).sub (M := [0, 8, 9, 11, 12]) rfl) (cp.rd.sub (M := [0, 8, 9, 11, 12]) rfl) ((Review.rd (K := [12]) a.Branch a.Into a.By a.Yes cq.rd).sub (M := [0, 8, 9, 11, 12]) rfl) ((b0.ul cl).sub (M := [0, 8, 9, 11, 12]) rfl)) ?_)))))
    rintro Y _ ei hm f ⟨F, rfl, cu⟩
    have ej := cl.n f
    refine mv (.tuple [F, vB Y.2].toArray) rfl (Lw.r rfl (R.ext (vs := [F, vB Y.2]) (v := F) rfl rfl) (Lw.r rfl (R.ext (vs := [F, vB Y.2]) (v := vB Y.2) rfl rfl) (Gv F rfl (Nb rfl (Cw.seq ?_)))))
    obtain ⟨ek, el, hm⟩ := zaS hm
    refine Cw.join 58 66 [66] (fun l w => ∃ bj bk, CW.w bk = w ∧ Le [] ei bk ∧ l = [vB bj] ∧ ek bj = some r) ?_ ?_
    ·rintro _ _ σ ⟨bj, bk, rfl, h, rfl, hm⟩
     rw [el] at hm
     have cv := ej.n h
     refine cn hm (fun hm => ?_) fun hm => ?_
     ·exact sr (Nb rfl (.ret (rt hm cv)))
     ·refine sk (Cw.seq (Cw.seq (Cw.draw [] [(0, 1), (1, 1), (2, 2), (3, 3), (4, 0)] mixed (by kernel_rfl) fun gv i => ?_)))
      have bl := cv.n i
      have cw := (((((((((cd.up X).up D).up L).up G).up E).up e).up B).up f).up h).up i
      have cx := ((ct.up f).up h).up i
      refine Mw.q rfl rfl (fun _ c => R.lda (cs := [d7, d8]) (cx.clcs rfl c) rfl rfl) (Mw.q rfl rfl (fun _ c => R.lda (cs := [ae, af]) (cw.clcs rfl c) rfl rfl) ?_)
      obtain ⟨a0, em, hm⟩ := ob hm
      refine Mw.t rfl rfl (T.call rfl (p13 (k0 := 15) (k1 := 16) (Repo.rd (K := [0]) x0.Commits x0.Heads (aj.ul bl) (ak.ul bl)) em)) ?_
      rintro _ _ ⟨gw, rfl, b, ⟨gx, gy, rfl, en, eo⟩⟩
      have ep := bl.n b
      have cy := (((cm.up f).up h).up i).up b
      have cz := (((co.up f).up h).up i).up b
      refine m0 b fun gz => ?_
      obtain ⟨g0, er, hm⟩ := ob hm
      refine Mw.l rfl rfl (T.call rfl (p15 (K := [8, 9, 15, 16])  (x0 := (Vm.Repo.mk C.Commits C.Heads)) (x1 := (Vm.Repo.mk a0.Commits a0.Heads)) ((Repo.rd (K := [8, 9]) C.Commits C.Heads (cy.rd.sub (M := [8, 9]) rfl) (cz.rd.sub (M := [8, 9]) rfl)).sub (M := [8, 9, 15, 16]) rfl) ((Repo.rd (K := [15, 16]) a0.Commits a0.Heads (en.rd.sub (M := [15, 16]) rfl) (eo.rd.sub (M := [15, 16]) rfl)).sub (M := [8, 9, 15, 16]) rfl) er)) ?_
      rintro _ _ ⟨g2, rfl, k, rfl⟩
      have bm := ep.n k
      refine Mw.p rfl rfl (fun _ => R.not rfl) (Mw.nil (cn hm (fun hm => ?_) fun hm => ?_))
      ·exact sr (Nb rfl (.ret (rt hm bm)))
      ·refine sk (ssr (mv az rfl (mv Q rfl (cr hm (fun _ => p28 (k0 := 17) (h1.ul bm)) ?_))))
       rintro g4 g5 g6 hm x ⟨_, rfl, es⟩
       have et := bm.n x
       have c2 := (((((cp.up f).up h).up i).up b).up k).up x
       refine ca hm (fun _ => p32 (K := [11, 17]) (c2.rd.sub (M := [11, 17]) rfl) (es.rd.sub (M := [11, 17]) rfl)) fun g7 g8 hm y => ?_
       have c3 := et.n y
       refine Lw.r rfl (R.not rfl) (nl (cn hm (fun hm => ?_) fun hm => ?_))
       ·exact sr (Nb rfl (.ret (rt hm c3)))
       ·refine sk (Cw.seq (Cw.seq (Cw.draw [] [(0, 1), (1, 1), (2, 2), (3, 3), (4, 0)] mixed (by kernel_rfl) fun g9 z => ?_)))
        have c4 := c3.n z
        have c6 := ((((((((((ci.up E).up e).up B).up f).up h).up i).up b).up k).up x).up y).up z
        have c7 := (((((((ck.up f).up h).up i).up b).up k).up x).up y).up z
        refine Mw.q rfl rfl (fun _ c => R.lda (cs := [vS a.Branch, vS a.Into, vS a.By, ee]) (c7.clcs rfl c) rfl rfl) (Mw.q rfl rfl (fun _ c => R.lda (cs := [vS x2.Branch, vS x2.Into, vS x2.By, ah]) (c6.clcs rfl c) rfl rfl) ?_)
        obtain ⟨N, eu, hm⟩ := ob hm
        refine Mw.t rfl rfl (T.call rfl (p29 (k0 := 18) (Review.rd (K := [0]) x2.Branch x2.Into x2.By x2.Yes (am.ul c4)) eu)) ?_
        rintro _ _ ⟨ha, rfl, d, ⟨hb, rfl, ew⟩⟩
        have ex := c4.n d
        have c8 := ((((((((cq.up f).up h).up i).up b).up k).up x).up y).up z).up d
        refine m0 d fun hc => ?_
        obtain ⟨hd, ey, hm⟩ := ob hm
        refine Mw.l rfl rfl (T.call rfl (p33 (K := [12, 18])  (x0 := (Vm.Review.mk a.Branch a.Into a.By a.Yes)) (x1 := (Vm.Review.mk N.Branch N.Into N.By N.Yes)) ((Review.rd (K := [12]) a.Branch a.Into a.By a.Yes c8.rd).sub (M := [12, 18]) rfl) ((Review.rd (K := [18]) N.Branch N.Into N.By N.Yes ew.rd).sub (M := [12, 18]) rfl) ey)) ?_
        rintro _ _ ⟨he, rfl, A, rfl⟩
        have c9 := ex.n A
        refine Mw.p rfl rfl (fun _ => R.not rfl) (Mw.nil (cn hm (fun hm => ?_) fun hm => ?_))
        ·exact sr (Nb rfl (.ret (rt hm c9)))
        ·refine sk (sr (Ni rfl (sr (la (((((((cx.up b).up k).up x).up y).up z).up d).up A) (mi rfl (cr hm (fun _ => p16 (K := [0]) (c0 := 8) (c1 := 9) (x0 := (Vm.Repo.mk C.Commits C.Heads)) ((((((cy.up k).up x).up y).up z).up d).up A) ((((((cz.up k).up x).up y).up z).up d).up A) rfl) ?_))))))
         rintro hf _ hg hm H ⟨rfl, hh, hi⟩
         have ez := c9.t H
         refine Ni rfl (sr (mv az rfl (mi rfl (cr hm (fun _ => p34 (K := [0]) (c0 := 11) (((((c2.up y).up z).up d).up A).up H) rfl) ?_))))
         rintro hj _ hk hm O ⟨rfl, hl⟩
         have e0 := ez.t O
         refine Ni rfl (sr (la ((((c7.up d).up A).up H).up O) (mi rfl (cr hm (fun _ => p35 (K := [0]) (c0 := 12) (x0 := (Vm.Review.mk a.Branch a.Into a.By a.Yes)) (((c8.up A).up H).up O) rfl) ?_))))
         rintro hn _ da hm Z ⟨rfl, ho⟩
         have e1 := e0.t Z
         have db := (((((((((((cu.up h).up i).up b).up k).up x).up y).up z).up d).up A).up H).up O).up Z
         refine Ni rfl (Cw.seq ?_)
         obtain ⟨e2, e3, hm⟩ := zaS hm
         refine Cw.join 91 103 [103] (fun l w => ∃ bn bp, CW.w bp = w ∧ Le [] da bp ∧ l = [vB bn] ∧ e2 bn = some r) ?_ ?_
         ·rintro _ _ σ ⟨bn, bp, rfl, an, rfl, hm⟩
          rw [e3] at hm
          have dc := e1.n an
          refine cn hm (fun hm => ?_) fun hm => ?_
          ·exact sr (Nb rfl (.ret (rt hm dc)))
          ·refine sk (sr (Ni rfl (sr (mv F rfl (mi rfl (cr hm (fun _ => p36 (K := [0]) (c0 := 14) (db.up an) rfl) ?_))))))
           rintro hp _ hq hm a1 ⟨rfl, dd⟩
           have e4 := dc.t a1
           refine Ni rfl (sr (Ni rfl (sr (mv F rfl (mi rfl (ca hm (fun _ => p37 (K := [14]) dd.rd) fun hr hs hm ao => ?_))))))
           have bq := e4.n ao
           refine Ni rfl (ssr (mi rfl (Lw.lt rfl (nl (cn hm (fun hm => ?_) fun hm => ?_)))))
           ·exact sr (Nb rfl (.ret (rt hm bq)))
           ·refine sk (ssr (mi rfl (mi rfl (Lw.ne rfl (nl (cn hm (fun hm => ?_) fun hm => ?_))))))
            ·exact sr (Nb rfl (.ret (rt hm bq)))
            ·refine sk (Cw.seq (Cw.draw [] [(0, 1), (2, 0), (4, 1), (1, 2), (3, 2), (5, 2), (6, 3), (7, 0), (8, 0), (9, 0), (10, 0), (11, 0)] mixed (by kernel_rfl) fun ht ap => ?_))
             have br := bq.n ap
             refine Mw.q rfl rfl (fun _ c => R.lda (cs := [ae, af]) (((((((((((((((cw.up b).up k).up x).up y).up z).up d).up A).up H).up O).up Z).up an).up a1).up ao).up ap).clcs rfl c) rfl rfl) (Dv Q rfl (Mw.q rfl rfl (fun _ c => R.lda (cs := [vS x2.Branch, vS x2.Into, vS x2.By, ah]) ((((((((((c6.up d).up A).up H).up O).up Z).up an).up a1).up ao).up ap).clcs rfl c) rfl rfl) ?_))
             obtain ⟨a3, e5, hm⟩ := ob hm
             refine Mw.t rfl rfl (T.call rfl (p13 (k0 := 19) (k1 := 20) (Repo.rd (K := [0]) x0.Commits x0.Heads (aj.ul br) (ak.ul br)) e5)) ?_
             rintro _ _ ⟨hu, rfl, a5, ⟨hv, hw, rfl, e6, e7⟩⟩
             have de := br.n a5
             refine m0 a5 fun e8 => ?_
             obtain ⟨hx, e9, hm⟩ := ob hm
             refine Mw.t rfl rfl (T.call rfl (p28 (k0 := 21) (h1.ul de) e9)) ?_
             rintro hy _ ⟨hz, rfl, aa, ⟨_, rfl, fb⟩⟩
             have df := de.n aa
             refine mc e8 aa fun fc => ?_
             obtain ⟨P, fd, hm⟩ := ob hm
             refine Mw.t rfl rfl (T.call rfl (p29 (k0 := 22) (Review.rd (K := [0]) x2.Branch x2.Into x2.By x2.Yes (am.ul df)) fd)) ?_
             rintro _ _ ⟨h3, rfl, V, ⟨h4, rfl, fe⟩⟩
             have dg := df.n V
             refine mc fc V fun h5 => ?_
             obtain ⟨aq, ff, hm⟩ := ob hm
             refine Mw.l rfl rfl (T.call rfl (p30 (K := [0, 19, 20, 21, 22]) (k0 := 23) (x0 := (Vm.Repo.mk a3.Commits a3.Heads)) (x2 := (Vm.Review.mk P.Branch P.Into P.By P.Yes)) ((Repo.rd (K := [19, 20]) a3.Commits a3.Heads (((e6.up aa).up V).rd.sub (M := [19, 20]) rfl) (((e7.up aa).up V).rd.sub (M := [19, 20]) rfl)).sub (M := [0, 19, 20, 21, 22]) rfl) ((fb.up V).rd.sub (M := [0, 19, 20, 21, 22]) rfl) ((Review.rd (K := [22]) P.Branch P.Into P.By P.Yes fe.rd).sub (M := [0, 19, 20, 21, 22]) rfl) ((b0.ul dg).sub (M := [0, 19, 20, 21, 22]) rfl) ff)) ?_
             rintro _ _ ⟨fg, rfl, bu, ⟨ac, rfl, fh⟩⟩
             have fi := dg.n bu
             refine Dv (.tuple [ac, vB aq.2].toArray) rfl (Mw.p rfl rfl (fun _ => R.ext (vs := [ac, vB aq.2]) (v := ac) rfl rfl) (Mw.p rfl rfl (fun _ => R.ext (vs := [ac, vB aq.2]) (v := vB aq.2) rfl rfl) (Hv ac rfl (Hb rfl (Mw.nil (Cw.seq ?_))))))
             obtain ⟨fj, fm, hm⟩ := zaS hm
             refine Cw.join 125 133 [133] (fun l w => ∃ bv bw, CW.w bw = w ∧ Le [] fg bw ∧ l = [vB bv] ∧ fj bv = some r) ?_ ?_
             ·rintro _ _ σ ⟨bv, bw, rfl, dh, rfl, hm⟩
              rw [fm] at hm
              have di := fi.n dh
              refine cn hm (fun hm => ?_) fun hm => ?_
              ·exact sr (Nb rfl (.ret (rt hm di)))
              ·refine sk (sr (Ni rfl (sr (mv F rfl (mi rfl (ca hm (fun _ => p37 (K := [14]) (((((((dd.up ao).up ap).up a5).up aa).up V).up bu).up dh).rd) fun h6 h7 hm fn => ?_))))))
               have bz := di.n fn
               refine Ni rfl (ssr (mi rfl (Lw.lt rfl (nl (cn hm (fun hm => ?_) fun hm => ?_)))))
               ·exact sr (Nb rfl (.ret (rt hm bz)))
               ·refine sk (ssr (mi rfl (mi rfl (Lw.ne rfl (nl (cn hm (fun hm => ?_) fun hm => ?_))))))
                ·exact sr (Nb rfl (.ret (rt hm bz)))
                ·exact sk (sr (Nb rfl (.ret (rt hm bz))))
             ·refine rg (mv ac rfl (mv J rfl ?_))
              have fo := bh.up ((X.sub (M := [8, 9, 10, 11, 12, 13, 14]) rfl).trans ((D.sub (M := [8, 9, 10, 11, 12, 13, 14]) rfl).trans ((L.sub (M := [8, 9, 10, 11, 12, 13, 14]) rfl).trans ((G.sub (M := [8, 9, 10, 11, 12, 13, 14]) rfl).trans ((E.sub (M := [8, 9, 10, 11, 12, 13, 14]) rfl).trans ((e.sub (M := [8, 9, 10, 11, 12, 13, 14]) rfl).trans ((B.sub (M := [8, 9, 10, 11, 12, 13, 14]) rfl).trans ((f.sub (M := [8, 9, 10, 11, 12, 13, 14]) rfl).trans ((h.sub (M := [8, 9, 10, 11, 12, 13, 14]) rfl).trans ((i.sub (M := [8, 9, 10, 11, 12, 13, 14]) rfl).trans ((b.sub (M := [8, 9, 10, 11, 12, 13, 14]) rfl).trans ((k.sub (M := [8, 9, 10, 11, 12, 13, 14]) rfl).trans ((x.sub (M := [8, 9, 10, 11, 12, 13, 14]) rfl).trans ((y.sub (M := [8, 9, 10, 11, 12, 13, 14]) rfl).trans ((z.sub (M := [8, 9, 10, 11, 12, 13, 14]) rfl).trans ((d.sub (M := [8, 9, 10, 11, 12, 13, 14]) rfl).trans ((A.sub (M := [8, 9, 10, 11, 12, 13, 14]) rfl).trans ((H.sub (M := [8, 9, 10, 11, 12, 13, 14]) rfl).trans ((O.sub (M := [8, 9, 10, 11, 12, 13, 14]) rfl).trans ((Z.sub (M := [8, 9, 10, 11, 12, 13, 14]) rfl).trans ((an.sub (M := [8, 9, 10, 11, 12, 13, 14]) rfl).trans ((a1.sub (M := [8, 9, 10, 11, 12, 13, 14]) rfl).trans ((ao.sub (M := [8, 9, 10, 11, 12, 13, 14]) rfl).trans ((ap.sub (M := [8, 9, 10, 11, 12, 13, 14]) rfl).trans ((a5.sub (M := [8, 9, 10, 11, 12, 13, 14]) rfl).trans ((aa.sub (M := [8, 9, 10, 11, 12, 13, 14]) rfl).trans ((V.sub (M := [8, 9, 10, 11, 12, 13, 14]) rfl).trans (bu.sub (M := [8, 9, 10, 11, 12, 13, 14]) rfl)))))))))))))))))))))))))))) rfl
              refine ca hm (fun _ => p31 (K := [0, 4, 5, 6, 7, 23]) (fh.rd.sub (M := [0, 4, 5, 6, 7, 23]) rfl) (fo.sub (M := [0, 4, 5, 6, 7, 23]) rfl)) fun h8 dj hm dk => Lw.r rfl (R.not rfl) (mb rfl (bs hm (fun ar hm => ?_) fun ar hm => ?_))
              ·exact psk 3 ar rfl (Pb ar rfl (nl ((ag) ⟨true, dj, rfl, dk, rfl, hm⟩)))
              ·exact wak 3 ar (mb rfl (mb rfl (Lw.r rfl (R.bne rfl rfl) (Pb ar rfl (nl ((ag) ⟨(aq.2 != U.2), dj, rfl, dk, rfl, hm⟩))))))
         ·refine rg (mi rfl (Lw.lt rfl (mb rfl (bs hm (fun au hm => ?_) fun au hm => ?_))))
          ·exact psk 4 au rfl (Pb au rfl (mb rfl (psk 3 rfl rfl (Pb rfl rfl (nl ((ag) ⟨true, da, rfl, Le.refl _ _, rfl, hm⟩))))))
          ·refine wak 4 au (mv F rfl (mv J rfl ?_))
           have fp := bh.up ((X.sub (M := [8, 9, 10, 11, 12, 13]) rfl).trans ((D.sub (M := [8, 9, 10, 11, 12, 13]) rfl).trans ((L.sub (M := [8, 9, 10, 11, 12, 13]) rfl).trans ((G.sub (M := [8, 9, 10, 11, 12, 13]) rfl).trans ((E.sub (M := [8, 9, 10, 11, 12, 13]) rfl).trans ((e.sub (M := [8, 9, 10, 11, 12, 13]) rfl).trans ((B.sub (M := [8, 9, 10, 11, 12, 13]) rfl).trans ((f.sub (M := [8, 9, 10, 11, 12, 13]) rfl).trans ((h.sub (M := [8, 9, 10, 11, 12, 13]) rfl).trans ((i.sub (M := [8, 9, 10, 11, 12, 13]) rfl).trans ((b.sub (M := [8, 9, 10, 11, 12, 13]) rfl).trans ((k.sub (M := [8, 9, 10, 11, 12, 13]) rfl).trans ((x.sub (M := [8, 9, 10, 11, 12, 13]) rfl).trans ((y.sub (M := [8, 9, 10, 11, 12, 13]) rfl).trans ((z.sub (M := [8, 9, 10, 11, 12, 13]) rfl).trans ((d.sub (M := [8, 9, 10, 11, 12, 13]) rfl).trans ((A.sub (M := [8, 9, 10, 11, 12, 13]) rfl).trans ((H.sub (M := [8, 9, 10, 11, 12, 13]) rfl).trans ((O.sub (M := [8, 9, 10, 11, 12, 13]) rfl).trans (Z.sub (M := [8, 9, 10, 11, 12, 13]) rfl)))))))))))))))))))) rfl
           refine ca hm (fun _ => p31 (K := [0, 4, 5, 6, 7, 14]) (db.rd.sub (M := [0, 4, 5, 6, 7, 14]) rfl) (fp.sub (M := [0, 4, 5, 6, 7, 14]) rfl)) fun h9 dl hm dm => Lw.r rfl (R.not rfl) (Pb au rfl (mb rfl (bs hm (fun av hm => ?_) fun av hm => ?_)))
           ·exact psk 3 av rfl (Pb av rfl (nl ((ag) ⟨true, dl, rfl, dm, rfl, hm⟩)))
           ·exact wak 3 av (mb rfl (mb rfl (Lw.r rfl (R.bne rfl rfl) (Pb av rfl (nl ((ag) ⟨(Y.2 != U.2), dl, rfl, dm, rfl, hm⟩))))))
    ·refine rg (mv F rfl (mv J rfl ?_))
     have fq := bh.up ((X.sub (M := [10, 13]) rfl).trans ((D.sub (M := [10, 13]) rfl).trans ((L.sub (M := [10, 13]) rfl).trans ((G.sub (M := [10, 13]) rfl).trans ((E.sub (M := [10, 13]) rfl).trans ((e.sub (M := [10, 13]) rfl).trans ((B.sub (M := [10, 13]) rfl).trans (f.sub (M := [10, 13]) rfl)))))))) rfl
     refine ca hm (fun _ => p31 (K := [0, 4, 5, 6, 7, 14]) (cu.rd.sub (M := [0, 4, 5, 6, 7, 14]) rfl) (fq.sub (M := [0, 4, 5, 6, 7, 14]) rfl)) fun ia dn hm dp => Lw.r rfl (R.not rfl) (mb rfl (bs hm (fun aw hm => ?_) fun aw hm => ?_))
     ·exact psk 3 aw rfl (Pb aw rfl (nl ((ag) ⟨true, dn, rfl, dp, rfl, hm⟩)))
     ·exact wak 3 aw (mb rfl (mb rfl (Lw.r rfl (R.bne rfl rfl) (Pb aw rfl (nl ((ag) ⟨(Y.2 != U.2), dn, rfl, dp, rfl, hm⟩))))))
theorem p5 {x0 a b x1 d x2 f r} (h : Rd W K [a, b] x0) (i : Rd W K [d] x1) (k : Rd W K [vS x2.Branch, vS x2.Into, vS x2.By, f] x2) (x : Gl 0 W K) (hm : Vm.zcC x0 x1 x2 = some r) : Q1 5 [.agg [a, b].toArray, d, .agg [vS x2.Branch, vS x2.Into, vS x2.By, f].toArray] W [] fun W' v => v = vB r :=
 (c5 (h.view _) (i.view _) (k.view _) (x.view _) hm).ad (fk 0) fun _ _ e => e
end Go.Sx
