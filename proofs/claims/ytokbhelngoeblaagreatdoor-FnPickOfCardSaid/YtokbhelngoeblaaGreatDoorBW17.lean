/- Walks: each function answers as its model, printed by a program of ours. Conditions: the arguments read as they are given. -/
import Derived.Test.YtokbhelngoeblaaGreatDoorBTs
import Derived.Test.YtokbhelngoeblaaGreatDoorBM8
import Derived.Test.YtokbhelngoeblaaGreatDoorBW10
import Derived.Test.YtokbhelngoeblaaGreatDoorBW12
import Derived.Test.YtokbhelngoeblaaGreatDoorBW13
import Derived.Test.YtokbhelngoeblaaGreatDoorBW5
import Derived.Test.YtokbhelngoeblaaGreatDoorBW6
import Derived.Test.YtokbhelngoeblaaGreatDoorBW8
namespace Go.Sx
open Go Go.Proofs Go.Vm Rp
set_option linter.unusedVariables false
set_option linter.unusedSimpArgs false
variable {W W0 : CW} {K : List Nat}
theorem c8 {x0 a1 r} (h0 : Rd W0 [0] [a1] x0) (J : Gl 0 W0 [0]) (hm : Vm.zjc x0 = some r) : Q0 8 [a1] W0 fun Wf v => v = vB r := by
 unfold Vm.zjc at hm
 refine zaI.of Tryz.func8 rfl rfl rfl rfl (sr (Nb rfl (ssr (mv a1 rfl (Lw.ln x0 h0 rfl (Lw.gt rfl (nl (cn hm (fun hm => ?_) fun hm => ?_))))))))
 ·exact sr (Nb rfl (.ret (rt hm (Le.refl _ _))))
 ·refine sk (sr (mv a1 rfl (cr hm (fun _ => p42 (k0 := 2) (k1 := 3) h0) ?_)))
  rintro a _ W4 hm l4 ⟨L, U, rfl, cl, cm⟩
  have a5 := l4.o
  refine mv (.tuple [.agg [L, U].toArray, vS a.2.1, vS a.2.2.1, vI a.2.2.2].toArray) rfl (Lw.r rfl (R.ext (vs := [.agg [L, U].toArray, vS a.2.1, vS a.2.2.1, vI a.2.2.2]) (v := .agg [L, U].toArray) rfl rfl) (Lw.r rfl (R.ext (vs := [.agg [L, U].toArray, vS a.2.1, vS a.2.2.1, vI a.2.2.2]) (v := vS a.2.1) rfl rfl) (Lw.r rfl (R.ext (vs := [.agg [L, U].toArray, vS a.2.1, vS a.2.2.1, vI a.2.2.2]) (v := vS a.2.2.1) rfl rfl) (Lw.r rfl (R.ext (vs := [.agg [L, U].toArray, vS a.2.1, vS a.2.2.1, vI a.2.2.2]) (v := vI a.2.2.2) rfl rfl) (al 4 [.slice none 0 0, .slice none 0 0] fun g6 W6 l6 b6 => ?_)))))
  have a7 := a5.n l6
  refine sta b6 (zab (cl.up l6).oc (zab (cm.up l6).oc za3)) fun f1 l10 co => ?_
  have cp := a7.t l10
  have cq := (cl.up l6).up l10
  have cs := (cm.up l6).up l10
  refine Gs rfl (Gs rfl (Ni rfl (sr (la co (ms rfl (ms rfl (mi rfl (cr hm (fun _ => p43 (K := [0, 2, 3]) (k0 := 5) (k1 := 6) (x0 := (Vm.Repo.mk a.1.Commits a.1.Heads)) ((Repo.rd (K := [2, 3]) a.1.Commits a.1.Heads (cq.rd.sub (M := [2, 3]) rfl) (cs.rd.sub (M := [2, 3]) rfl)).sub (M := [0, 2, 3]) rfl) ((J.ul cp).sub (M := [0, 2, 3]) rfl)) ?_))))))))
  rintro b _ f2 hm a2 ⟨a3, a4, rfl, ct, cu⟩
  have dw := cp.n a2
  refine mv (.tuple [.agg [a3, a4].toArray, vI b.2].toArray) rfl (Lw.r rfl (R.ext (vs := [.agg [a3, a4].toArray, vI b.2]) (v := .agg [a3, a4].toArray) rfl rfl) (Lw.r rfl (R.ext (vs := [.agg [a3, a4].toArray, vI b.2]) (v := vI b.2) rfl rfl) (al 7 [.slice none 0 0, .slice none 0 0] fun f3 f4 E dx => ?_)))
  have dy := dw.n E
  refine sta dx (zab (ct.up E).oc (zab (cu.up E).oc za3)) fun f5 V dz => ?_
  have d0 := dy.t V
  have cv := ((cq.up a2).up E).up V
  have cw := ((cs.up a2).up E).up V
  have cx := ((co.up a2).up E).up V
  refine Ni rfl (sr (la cx (ms rfl (ms rfl (mi rfl (cr hm (fun _ => p44 (K := [2, 3]) (x0 := (Vm.Repo.mk a.1.Commits a.1.Heads)) (Repo.rd (K := [2, 3]) a.1.Commits a.1.Heads (cv.rd.sub (M := [2, 3]) rfl) (cw.rd.sub (M := [2, 3]) rfl))) ?_))))))
  rintro x _ f6 hm N ⟨aj, ak, rfl, d1, d2⟩
  have a6 := d1.sub (M := [0, 2, 3]) rfl
  have a8 := d2.sub (M := [0, 2, 3]) rfl
  have d3 := d0.n N
  refine mv (.tuple [.agg [aj, ak].toArray, vI x.2].toArray) rfl (Lw.r rfl (R.ext (vs := [.agg [aj, ak].toArray, vI x.2]) (v := .agg [aj, ak].toArray) rfl rfl) (Lw.r rfl (R.ext (vs := [.agg [aj, ak].toArray, vI x.2]) (v := vI x.2) rfl rfl) (al 8 [.slice none 0 0, .slice none 0 0] fun f7 f8 e d4 => ?_)))
  have d5 := d3.n e
  refine sta d4 (zab a6.oc (zab a8.oc za3)) fun cy f cz => ?_
  have c0 := d5.t f
  have c1 := ((cv.up N).up e).up f
  have c2 := ((cw.up N).up e).up f
  have c3 := ((((ct.up E).up V).up N).up e).up f
  have c4 := ((((cu.up E).up V).up N).up e).up f
  have c5 := ((cx.up N).up e).up f
  have c6 := ((dz.up N).up e).up f
  refine Ni rfl (Cw.seq ?_)
  obtain ⟨d6, d7, hm⟩ := zc1 hm
  refine Cw.join 45 58 [58] (fun l w => ∃ bp am, CW.w am = w ∧ Le [] cy am ∧ l = [vB bp] ∧ d6 bp = some r) ?_ ?_
  ·rintro _ _ σ ⟨bp, am, rfl, h, rfl, hm⟩
   rw [d7] at hm
   have a9 := c0.n h
   have bq := c1.up h
   have br := c2.up h
   have ba := c3.up h
   have bb := c4.up h
   have bu := c5.up h
   have bc := c6.up h
   refine cn hm (fun hm => ?_) fun hm => ?_
   ·obtain ⟨d8, d9, hm⟩ := zc1 hm
    refine Cw.join 59 66 [2] (fun l w => ∃ bv bw, CW.w bw = w ∧ Le [] am bw ∧ l = [vB bv] ∧ d8 bv = some r) ?_ ?_
    ·rintro _ _ σ ⟨bv, bw, rfl, ea, rfl, hm⟩
     rw [d9] at hm
     have eb := a9.n ea
     exact .ret (rt hm eb)
    ·refine rg (mi rfl (mi rfl (Lw.eq rfl (mb rfl (bs hm (fun an hm => ?_) fun an hm => ?_)))))
     ·refine wak 3 an (la bc (la (cz.up h) ?_))
      have ec := a6.up ((e.sub (M := [8]) rfl).trans ((f.sub (M := [8]) rfl).trans (h.sub (M := [8]) rfl))) rfl
      have ed := a8.up ((e.sub (M := [8]) rfl).trans ((f.sub (M := [8]) rfl).trans (h.sub (M := [8]) rfl))) rfl
      exact ca hm (fun _ => p45 (K := [0, 2, 3, 5, 6]) (x0 := (Vm.Repo.mk b.1.Commits b.1.Heads)) ((Repo.rd (K := [5, 6]) b.1.Commits b.1.Heads (ba.rd.sub (M := [5, 6]) rfl) (bb.rd.sub (M := [5, 6]) rfl)).sub (M := [0, 2, 3, 5, 6]) rfl) ((Repo.rd (K := [0, 2, 3]) x.1.Commits x.1.Heads ec ed).sub (M := [0, 2, 3, 5, 6]) rfl)) fun ee ef hm eg => Pb an rfl (Nb rfl ((ag) ⟨ee, ef, rfl, eg, rfl, hm⟩))
     ·exact psk 3 an rfl (Pb an rfl (Nb rfl ((ag) ⟨false, am, rfl, Le.refl _ _, rfl, hm⟩)))
   ·refine sk (ssr (mi rfl (Lw.ne rfl (nl (cn hm (fun hm => ?_) fun hm => ?_)))))
    ·refine sr (la bc (la bu (ca hm (fun _ => p45 (K := [2, 3, 5, 6]) (x0 := (Vm.Repo.mk b.1.Commits b.1.Heads)) (x1 := (Vm.Repo.mk a.1.Commits a.1.Heads)) ((Repo.rd (K := [5, 6]) b.1.Commits b.1.Heads (ba.rd.sub (M := [5, 6]) rfl) (bb.rd.sub (M := [5, 6]) rfl)).sub (M := [2, 3, 5, 6]) rfl) ((Repo.rd (K := [2, 3]) a.1.Commits a.1.Heads (bq.rd.sub (M := [2, 3]) rfl) (br.rd.sub (M := [2, 3]) rfl)).sub (M := [2, 3, 5, 6]) rfl)) fun f9 ga hm eh => ?_)))
     have ei := a9.n eh
     exact Nb rfl (.ret (rt hm ei))
    ·refine sk (sr (la bu (ms rfl (ca hm (fun _ => p46 (K := [0, 2, 3]) (x0 := (Vm.Repo.mk a.1.Commits a.1.Heads)) ((Repo.rd (K := [2, 3]) a.1.Commits a.1.Heads (bq.rd.sub (M := [2, 3]) rfl) (br.rd.sub (M := [2, 3]) rfl)).sub (M := [0, 2, 3]) rfl) ((J.ul a9).sub (M := [0, 2, 3]) rfl)) fun bz gb hm i => ?_))))
     have c7 := a9.n i
     refine Ni rfl (sr (la (bc.up i) (ms rfl (ca hm (fun _ => p46 (K := [0, 5, 6]) (x0 := (Vm.Repo.mk b.1.Commits b.1.Heads)) ((Repo.rd (K := [5, 6]) b.1.Commits b.1.Heads ((ba.up i).rd.sub (M := [5, 6]) rfl) ((bb.up i).rd.sub (M := [5, 6]) rfl)).sub (M := [0, 5, 6]) rfl) ((J.ul c7).sub (M := [0, 5, 6]) rfl)) fun gc gd hm z => ?_))))
     have ej := c7.n z
     refine Ni rfl (sr (Lw.t rfl (T.lit0 (α := File) 9 []) ?_))
     rintro b0 _ ⟨gf, rfl, A, ek⟩
     have el := ej.n A
     refine Nv b0 rfl ?_
     obtain ⟨em, en, B, eo⟩ := zlp _ 9
     rw [← en]
     have ep : Rd (α := List Vm.File) em [0] [b0] ([] : List File) := by rw [eo]; exact (ek.rd.dye 9).sub (M := [0]) rfl
     have be := el.t B
     have er := a6.up ((e.sub (M := [8, 9]) rfl).trans ((f.sub (M := [8, 9]) rfl).trans ((h.sub (M := [8, 9]) rfl).trans ((i.sub (M := [8, 9]) rfl).trans ((z.sub (M := [8, 9]) rfl).trans ((A.sub (M := [8, 9]) rfl).trans (B.sub (M := [8, 9]) rfl))))))) rfl
     have es := a8.up ((e.sub (M := [8, 9]) rfl).trans ((f.sub (M := [8, 9]) rfl).trans ((h.sub (M := [8, 9]) rfl).trans ((i.sub (M := [8, 9]) rfl).trans ((z.sub (M := [8, 9]) rfl).trans ((A.sub (M := [8, 9]) rfl).trans (B.sub (M := [8, 9]) rfl))))))) rfl
     obtain ⟨ao, et, X, b1⟩ := zlp _ 2
     rw [← et]
     have gg : Rd ao [0, 3] [aj] x.1.Commits := by rw [b1]; exact (er.dye 2).sub (M := [0, 3]) rfl
     have gh : Rd ao [0, 3] [ak] x.1.Heads := by rw [b1]; exact (es.dye 2).sub (M := [0, 3]) rfl
     have F : Rd (α := List Vm.Commit) ao [0] [L] a.1.Commits := by rw [b1]; exact (((((bq.up i).up z).up A).up B).rd.dye 2).sub (M := [0]) rfl
     have ap := X.s
     have bg := ((((bu.up i).up z).up A).up B).up X
     obtain ⟨eu, ew, hm⟩ := zc1 hm
     refine Cw.join 79 99 [13] (fun l w => ∃ b2 bh bi, CW.w bi = w ∧ Le [] ao bi ∧ l = [bh] ∧ Rd bi [0] [bh] b2 ∧ eu b2 = some r) ?_ ?_
     ·rintro _ _ σ ⟨b2, bh, bi, rfl, Y, rfl, r171, hm⟩
      rw [ew] at hm
      have O := Y.o
      refine Cw.seq (Cw.draw [] [(0, 0), (1, 0), (2, 1), (3, 0), (4, 0), (5, 0), (6, 1), (7, 0), (8, 1), (9, 0), (10, 0), (11, 0), (12, 1), (13, 2), (14, 0), (15, 0), (16, 0), (17, 0), (18, 0)] mixed (by kernel_rfl) fun gj Z => ?_)
      have G := Z.o
      have b3 := (bg.up Y).up Z
      refine Dv bh rfl (Dfl b3 rfl rfl rfl (Di rfl ?_))
      obtain ⟨gk, b4, hm⟩ := ob hm
      have aa := F.ul (O.trans G)
      refine Mw.p rfl rfl (fun _ => R.ix (α := Commit) aa b4 rfl rfl rfl) (Df rfl ?_)
      obtain ⟨gm, c193, r194⟩ := (Commit.at2 (aa.at_ b4)).cell rfl
      refine Mw.q rfl rfl (fun _ c => R.ld rfl rfl (zaE (Commit.at2 (aa.at_ b4)).1 rfl c193 c)) (Dfl b3 rfl rfl rfl (Di rfl ?_))
      obtain ⟨gn, b5, hm⟩ := ob hm
      refine Mw.p rfl rfl (fun _ => R.ix (α := Commit) aa b5 rfl rfl rfl) (Df rfl ?_)
      obtain ⟨go, c198, r199⟩ := (Commit.at2 (aa.at_ b5)).cell rfl
      refine Mw.q rfl rfl (fun _ c => R.ld rfl rfl (zaE (Commit.at2 (aa.at_ b5)).1 rfl c198 c)) ?_
      obtain ⟨ac, ex, hm⟩ := ob hm
      refine Mw.t rfl rfl (T.call rfl (p47 (k0 := 10) (r171.ul G) r194 r199 (J.ul (((be.trans ap).trans O).trans G)) ex)) ?_
      rintro _ _ ⟨ey, rfl, P, ⟨H, rfl, ez⟩⟩
      have e0 : Ow (α := List (Sh Vm.File)) ey 10 [0] [H] ac.1 := ez.sub rfl
      have aq := P.o
      have c9 := (((((((ba.up i).up z).up A).up B).up X).up Y).up Z).up P
      have da := (((((((bb.up i).up z).up A).up B).up X).up Y).up Z).up P
      have db := (((((((bc.up i).up z).up A).up B).up X).up Y).up Z).up P
      refine m0 P fun gr => Dv (.tuple [H, vB ac.2].toArray) rfl (Mw.p rfl rfl (fun _ => R.ext (vs := [H, vB ac.2]) (v := H) rfl rfl) (Mw.p rfl rfl (fun _ => R.ext (vs := [H, vB ac.2]) (v := vB ac.2) rfl rfl) (Hv H rfl (Hb rfl (Mw.nil (sr (la db (mi rfl (cr hm (fun _ => p23 (K := [0, 5, 6]) (k0 := 11) (x0 := (Vm.Repo.mk b.1.Commits b.1.Heads)) ((Repo.rd (K := [5, 6]) b.1.Commits b.1.Heads (c9.rd.sub (M := [5, 6]) rfl) (da.rd.sub (M := [5, 6]) rfl)).sub (M := [0, 5, 6]) rfl) ((J.ul ((((be.trans ap).trans O).trans G).trans aq)).sub (M := [0, 5, 6]) rfl)) ?_)))))))))
      rintro bj _ b7 hm Q ⟨S, rfl, e1⟩
      have bk := Q.o
      have b8 := (b3.up P).up Q
      refine mv (.tuple [S, vB bj.2].toArray) rfl (Lw.r rfl (R.ext (vs := [S, vB bj.2]) (v := S) rfl rfl) (Lw.r rfl (R.ext (vs := [S, vB bj.2]) (v := vB bj.2) rfl rfl) (Gv S rfl (Nb rfl ?_))))
      obtain ⟨e2, e3, hm⟩ := zc1 hm
      refine Cw.join 123 142 [18] (fun l w => ∃ b9 bl, CW.w bl = w ∧ Le [] b7 bl ∧ l = [vB b9] ∧ e2 b9 = some r) ?_ ?_
      ·rintro _ _ σ ⟨b9, bl, rfl, I, rfl, hm⟩
       rw [e3] at hm
       have cb := I.o
       have cc := (c9.up Q).up I
       have dc := (da.up Q).up I
       have cd := (db.up Q).up I
       obtain ⟨e4, e5, hm⟩ := zc1 hm
       refine Cw.join 143 182 [2] (fun l w => ∃ ce cf, CW.w cf = w ∧ Le [] bl cf ∧ l = [vB ce] ∧ e4 ce = some r) ?_ ?_
       ·rintro _ _ σ ⟨ce, cf, rfl, e6, rfl, hm⟩
        rw [e5] at hm
        have e7 := ((((((be.trans ap).trans O).trans G).trans aq).trans bk).trans cb).n e6
        exact .ret (rt hm e7)
       ·refine rg (la cd (ca hm (fun _ => p22 (K := [0, 5, 6]) (x0 := (Vm.Repo.mk b.1.Commits b.1.Heads)) ((Repo.rd (K := [5, 6]) b.1.Commits b.1.Heads (cc.rd.sub (M := [5, 6]) rfl) (dc.rd.sub (M := [5, 6]) rfl)).sub (M := [0, 5, 6]) rfl) ((J.ul ((((((be.trans ap).trans O).trans G).trans aq).trans bk).trans cb)).sub (M := [0, 5, 6]) rfl)) fun gs e8 hm d => ?_))
        have dd := ((((O.trans G).trans aq).trans bk).trans cb).n d
        have de := (b8.up I).up d
        refine mb rfl (bs hm (fun ar hm => ?_) fun ar hm => ?_)
        ·refine wak 3 ar (la (cd.up d) (la de (ca hm (fun _ => p48 (K := [0, 3, 5, 6]) (x0 := (Vm.Repo.mk b.1.Commits b.1.Heads)) (x1 := (Vm.Repo.mk a.1.Commits a.1.Heads)) ((Repo.rd (K := [5, 6]) b.1.Commits b.1.Heads ((cc.up d).rd.sub (M := [5, 6]) rfl) ((dc.up d).rd.sub (M := [5, 6]) rfl)).sub (M := [0, 3, 5, 6]) rfl) ((Repo.rd (K := [0, 3]) a.1.Commits a.1.Heads ((F.ul dd).sub (M := [0, 3]) rfl) ((((((((((((br.up i).up z).up A).up B).up X).up Y).up Z).up P).up Q).up I).up d).rd.sub (M := [0, 3]) rfl)).sub (M := [0, 3, 5, 6]) rfl)) fun gu df hm k => ?_)))
         have e9 := dd.n k
         have dg := (cc.up d).up k
         refine Pb ar rfl (mb rfl (bs hm (fun au hm => ?_) fun au hm => ?_))
         ·refine wak 9 au (fl ((cd.up d).up k) rfl (mi rfl ?_))
          obtain ⟨gv, dh, hm⟩ := ob hm
          refine Lw.r rfl (R.ix (α := Commit) dg.rd dh rfl rfl rfl) (Lw.fa rfl ?_)
          obtain ⟨gw, c280, r281⟩ := (Commit.at0 (dg.rd.at_ dh)).cell rfl
          refine Lw.r rfl (R.ld rfl rfl c280) (mi rfl (Lw.t rfl (T.bsS (α := Int) (xs := [bz]) 12 [] (W := df) [vI bz] (Each.cons ((rdI _)) Each.nil) rfl) ?_))
          rintro gx _ ⟨gy, rfl, y, fb⟩
          have fc := e9.n y
          have fd := r281.up (y.sub (M := []) rfl) rfl
          refine ca hm (fun _ => p49 (K := [5, 12]) (fd.sub (M := [5, 12]) rfl) (fb.rd.sub (M := [5, 12]) rfl)) fun gz cg hm C => ?_
          have fe := fc.n C
          have di := ((((e1.up I).up d).up k).up y).up C
          refine Pb au rfl (mb rfl (bs hm (fun av hm => ?_) fun av hm => ?_))
          ·refine wak 1 av (mb rfl (Pb av rfl (mb rfl (bs hm (fun aw hm => ?_) fun aw hm => ?_))))
           ·refine wak 3 aw (mv S rfl (mv H rfl ?_))
            have ff : Rd (α := List Vm.File) cg [10, 0] [H] ac.1 := Ow.rdSh ((((((e0.up Q).up I).up d).up k).up y).up C)
            refine ca hm (fun _ => p21 (K := [0, 10, 11]) (di.rd.sub (M := [0, 10, 11]) rfl) (ff.sub (M := [0, 10, 11]) rfl)) fun g0 dj hm ae => ?_
            have dk := fe.n ae
            refine Pb aw rfl (mb rfl (bs hm (fun D hm => ?_) fun D hm => ?_))
            ·refine wak 3 D (mb rfl (Lw.r rfl (R.not rfl) (mb rfl (bs hm (fun ax hm => ?_) fun ax hm => ?_))))
             ·exact psk 8 ax rfl (wak 1 D (Pb ax rfl (Pb D rfl (Nb rfl ((ag) ⟨true, dj, rfl, ((((d.j k).j y).j C).j ae).w, rfl, hm⟩)))))
             ·refine wak 8 ax (mv S rfl (fl ((((de.up k).up y).up C).up ae) rfl (mi rfl ?_)))
              obtain ⟨g1, dl, hm⟩ := ob hm
              refine Lw.r rfl (R.ix (α := Commit) (F.ul dk) dl rfl rfl rfl) (Lw.fa rfl ?_)
              obtain ⟨g2, c328, r329⟩ := (Commit.at2 ((F.ul dk).at_ dl)).cell rfl
              exact Lw.r rfl (R.ld rfl rfl c328) (ca hm (fun _ => p21 (K := [0, 11]) ((di.up ae).rd.sub (M := [0, 11]) rfl) (r329.sub (M := [0, 11]) rfl)) fun fg fh hm fi => wak 1 D (Pb ax rfl (Pb D rfl (Nb rfl ((ag) ⟨fg, fh, rfl, (((((d.j k).j y).j C).j ae).j fi).w, rfl, hm⟩)))))
            ·exact psk 3 D rfl (puk 8 rfl (psk 1 D rfl (Pb D rfl (Nb rfl ((ag) ⟨false, dj, rfl, ((((d.j k).j y).j C).j ae).w, rfl, hm⟩)))))
           ·exact psk 3 aw rfl (Pb aw rfl (mb rfl (psk 3 rfl rfl (puk 8 rfl (psk 1 rfl rfl (Pb rfl rfl (Nb rfl ((ag) ⟨false, cg, rfl, (((d.j k).j y).j C).w, rfl, hm⟩))))))))
          ·exact psk 1 av rfl (Pb av rfl (mb rfl (psk 3 rfl rfl (Pb rfl rfl (mb rfl (psk 3 rfl rfl (puk 8 rfl (psk 1 rfl rfl (Pb rfl rfl (Nb rfl ((ag) ⟨false, cg, rfl, (((d.j k).j y).j C).w, rfl, hm⟩)))))))))))
         ·exact psk 9 au rfl (Pb au rfl (mb rfl (psk 1 rfl rfl (Pb rfl rfl (mb rfl (psk 3 rfl rfl (Pb rfl rfl (mb rfl (psk 3 rfl rfl (puk 8 rfl (psk 1 rfl rfl (Pb rfl rfl (Nb rfl ((ag) ⟨false, df, rfl, (d.j k).w, rfl, hm⟩))))))))))))))
        ·exact psk 3 ar rfl (Pb ar rfl (mb rfl (psk 9 rfl rfl (Pb rfl rfl (mb rfl (psk 1 rfl rfl (Pb rfl rfl (mb rfl (psk 3 rfl rfl (Pb rfl rfl (mb rfl (psk 3 rfl rfl (puk 8 rfl (psk 1 rfl rfl (Pb rfl rfl (Nb rfl ((ag) ⟨false, e8, rfl, d, rfl, hm⟩)))))))))))))))))
      ·refine rg (fl b8 rfl (mi rfl ?_))
       obtain ⟨fj, dm, hm⟩ := ob hm
       have bm := F.ul (((O.trans G).trans aq).trans bk)
       refine Lw.r rfl (R.ix (α := Commit) bm dm rfl rfl rfl) (Lw.fa rfl ?_)
       obtain ⟨g3, c347, r348⟩ := (Commit.at0 (bm.at_ dm)).cell rfl
       refine Lw.r rfl (R.ld rfl rfl c347) (Lw.ln fj.Parents r348 rfl (Lw.gt rfl (mb rfl (bs hm (fun ay hm => ?_) fun ay hm => ?_))))
       ·refine wak 10 ay (fl b8 rfl (mi rfl ?_))
        obtain ⟨g4, dn, hm⟩ := ob hm
        refine Lw.r rfl (R.ix (α := Commit) bm dn rfl rfl rfl) (Lw.fa rfl ?_)
        obtain ⟨g5, c353, r354⟩ := (Commit.at0 (bm.at_ dn)).cell rfl
        refine Lw.r rfl (R.ld rfl rfl c353) ?_
        obtain ⟨fm, dp, hm⟩ := ob hm
        exact Lw.r rfl (R.ix (α := Int) r354 dp rfl rfl rfl) (Lw.r rfl (R.ld rfl rfl (r354.at_ dp).int) (mi rfl (Lw.eq rfl (Pb ay rfl (Nb rfl ((ag) ⟨((fm : Int) == (bz : Int)), b7, rfl, Le.refl _ _, rfl, hm⟩))))))
       ·exact psk 10 ay rfl (Pb ay rfl (Nb rfl ((ag) ⟨false, b7, rfl, Le.refl _ _, rfl, hm⟩)))
     ·refine sr (fl bg rfl (mi rfl ?_))
      obtain ⟨fn, dq, hm⟩ := ob hm
      refine Lw.r rfl (R.ix (α := Commit) F dq rfl rfl rfl) (Lw.fa rfl ?_)
      obtain ⟨g7, c360, r361⟩ := (Commit.at0 (F.at_ dq)).cell rfl
      refine Lw.r rfl (R.ld rfl rfl c360) (Lw.ln fn.Parents r361 rfl (Lw.gt rfl (nl (cn hm (fun hm => ?_) fun hm => ?_))))
      ·refine Cw.draw [] [(0, 0), (1, 1), (2, 0), (3, 1), (4, 0), (5, 0), (6, 0), (7, 1), (8, 0), (9, 1), (10, 0), (11, 0), (12, 1), (13, 0)] mixed (by kernel_rfl) fun fo bn => ?_
       have fp := bn.o
       refine Dfl (bg.up bn) rfl rfl rfl (Dfl (bg.up bn) rfl rfl rfl (Di rfl ?_))
       obtain ⟨g8, ch, hm⟩ := ob hm
       have af := F.ul fp
       refine Mw.p rfl rfl (fun _ => R.ix (α := Commit) af ch rfl rfl rfl) (Df rfl ?_)
       obtain ⟨g9, c375, r376⟩ := (Commit.at0 (af.at_ ch)).cell rfl
       refine Mw.q rfl rfl (fun _ c => R.ld rfl rfl (zaE (Commit.at0 (af.at_ ch)).1 rfl c375 c)) ?_
       obtain ⟨ha, ci, hm⟩ := ob hm
       refine Mw.p rfl rfl (fun _ => R.ix (α := Int) r376 ci rfl rfl rfl) (Mw.q rfl rfl (fun _ c => R.ld rfl rfl (zaE (r376.at_ ci).1 rfl (r376.at_ ci).int c)) ?_)
       obtain ⟨fq, cj, hm⟩ := ob hm
       refine Mw.p rfl rfl (fun _ => R.ix (α := Commit) af cj rfl rfl rfl) (Df rfl ?_)
       obtain ⟨dr, c382, r383⟩ := (Commit.at2 (af.at_ cj)).cell rfl
       exact Mw.q rfl rfl (fun _ c => R.ld rfl rfl (zaE (Commit.at2 (af.at_ cj)).1 rfl c382 c)) (Hv dr rfl (Mw.nil ((ag) ⟨fq.Tree, dr, fo, rfl, bn, rfl, r383, hm⟩)))
      ·exact sk ((ag) ⟨([] : List File), b0, ao, rfl, Le.refl _ _, rfl, (ep.ul ap), hm⟩)
  ·refine rg (mi rfl (mi rfl (Lw.ne rfl (mb rfl (bs hm (fun az hm => ?_) fun az hm => ?_)))))
   ·exact psk 4 az rfl (Pb az rfl (mb rfl (psk 3 rfl rfl (Pb rfl rfl (nl ((ag) ⟨true, cy, rfl, Le.refl _ _, rfl, hm⟩))))))
   ·refine wak 4 az (la c6 (la cz ?_))
    have fr := a6.up ((e.sub (M := [8]) rfl).trans (f.sub (M := [8]) rfl)) rfl
    have fs := a8.up ((e.sub (M := [8]) rfl).trans (f.sub (M := [8]) rfl)) rfl
    refine ca hm (fun _ => p45 (K := [0, 2, 3, 5, 6]) (x0 := (Vm.Repo.mk b.1.Commits b.1.Heads)) ((Repo.rd (K := [5, 6]) b.1.Commits b.1.Heads (c3.rd.sub (M := [5, 6]) rfl) (c4.rd.sub (M := [5, 6]) rfl)).sub (M := [0, 2, 3, 5, 6]) rfl) ((Repo.rd (K := [0, 2, 3]) x.1.Commits x.1.Heads fr fs).sub (M := [0, 2, 3, 5, 6]) rfl)) fun hb ft hm ah => ?_
    have fu := c0.n ah
    refine Lw.r rfl (R.not rfl) (Pb az rfl (mb rfl (bs hm (fun a0 hm => ?_) fun a0 hm => ?_)))
    ·exact psk 3 a0 rfl (Pb a0 rfl (nl ((ag) ⟨true, ft, rfl, ah, rfl, hm⟩)))
    ·exact wak 3 a0 (la (c5.up ah) (ca hm (fun _ => p22 (K := [0, 2, 3]) (x0 := (Vm.Repo.mk a.1.Commits a.1.Heads)) ((Repo.rd (K := [2, 3]) a.1.Commits a.1.Heads ((c1.up ah).rd.sub (M := [2, 3]) rfl) ((c2.up ah).rd.sub (M := [2, 3]) rfl)).sub (M := [0, 2, 3]) rfl) ((J.ul fu).sub (M := [0, 2, 3]) rfl)) fun fv fw hm fx => Lw.r rfl (R.not rfl) (Pb a0 rfl (nl ((ag) ⟨(!fv), fw, rfl, (ah.j fx).w, rfl, hm⟩)))))
theorem p8 {x0 a r} (b : Rd W K [a] x0) (d : Gl 0 W K) (hm : Vm.zjc x0 = some r) : Q1 8 [a] W [] fun W' v => v = vB r :=
 (c8 (b.view _) (d.view _) hm).ad (fk 0) fun _ _ e => e
end Go.Sx
