/- Walks: each function answers as its model, printed by a program of ours. Conditions: the arguments read as they are given. -/
import Derived.Test.YtokbhelngoeblaaGreatDoorBTs
import Derived.Test.YtokbhelngoeblaaGreatDoorBM7
import Derived.Test.YtokbhelngoeblaaGreatDoorBW10
import Derived.Test.YtokbhelngoeblaaGreatDoorBW11
import Derived.Test.YtokbhelngoeblaaGreatDoorBW13
import Derived.Test.YtokbhelngoeblaaGreatDoorBW5
import Derived.Test.YtokbhelngoeblaaGreatDoorBW6
import Derived.Test.YtokbhelngoeblaaGreatDoorBW8
import Derived.Test.YtokbhelngoeblaaGreatDoorBW9
namespace Go.Sx
open Go Go.Proofs Go.Vm Rp
set_option linter.unusedVariables false
set_option linter.unusedSimpArgs false
variable {W W0 : CW} {K : List Nat}
theorem c50 {x0 e r} (C : Rd W0 [0] [e] x0) (hm : Vm.zfV x0 = some r) : Q0 50 [e] W0 fun Wf v => ∃ k x, v = .tuple [.agg [k, x].toArray, vS r.2.1, vS r.2.2.1, vI r.2.2.2].toArray ∧ OwS Wf [31] [] [k] r.1.Commits ∧ OwS Wf [32] [] [x] r.1.Heads := by
 unfold Vm.zfV at hm
 refine zaI.of Tryz.func50 rfl rfl rfl rfl (sr (al 2 [.slice none 0 0, .slice none 0 0] fun O P D E => ?_))
 have y := D.o
 refine Gs rfl (Gs rfl (Ni rfl (sr (mv e rfl (cr hm (fun _ => p112 (k0 := 3) (k1 := 4) (C.ul y)) ?_)))))
 rintro a _ Q hm z ⟨b, d, rfl, A, B⟩
 have F := y.n z
 refine Lw.r rfl (R.ext (vs := [.agg [b, d].toArray, vS a.2.1, vS a.2.2.1, vI a.2.2.2]) (v := .agg [b, d].toArray) rfl rfl) (Lw.r rfl (R.ext (vs := [.agg [b, d].toArray, vS a.2.1, vS a.2.2.1, vI a.2.2.2]) (v := vS a.2.1) rfl rfl) (Lw.r rfl (R.ext (vs := [.agg [b, d].toArray, vS a.2.1, vS a.2.2.1, vI a.2.2.2]) (v := vS a.2.2.1) rfl rfl) (Lw.r rfl (R.ext (vs := [.agg [b, d].toArray, vS a.2.1, vS a.2.2.1, vI a.2.2.2]) (v := vI a.2.2.2) rfl rfl) (sta (E.up z) (zab A.oc (zab B.oc za3)) fun S f G => ?_))))
 have H := F.t f
 refine Gs rfl (Gs rfl (Ni rfl ?_))
 obtain ⟨T, I, h, J⟩ := (A.up f).dyeO 31
 have K := H.t h
 obtain ⟨U, L, i, M⟩ := ((B.up f).up h).dyeO 32
 have N := K.t i
 cases hm
 rw [← L.trans (I)]
 exact Cw.ret (zv5 (zjk.c rfl ((G.up h).up i) (zjk.t rfl (zjk.t rfl (zjk.t rfl zjk.n)))) (Res.mk N ⟨b, d, rfl, (J.up i).s, M.s⟩))
theorem p50 {x0 d k0 k1 r} (f : Rd W K [d] x0) (hm : Vm.zfV x0 = some r) : Q1 50 [d] W [] fun W' v => ∃ a b, v = .tuple [.agg [a, b].toArray, vS r.2.1, vS r.2.2.1, vI r.2.2.2].toArray ∧ Ow W' k0 [] [a] r.1.Commits ∧ Ow W' k1 [] [b] r.1.Heads :=
 zaI.adJ (J := []) (fun c => bif Nat.beq c 0 then 0 else bif Nat.beq c 31 then k0 else bif Nat.beq c 32 then k1 else 0) (c50 (f.view _) hm) fun _ _ ⟨a, b, e, h, i⟩ => ⟨a, b, e, h.one1.backN rfl, i.one1.backN rfl⟩
theorem c9 {x0 a0 r} (h0 : Rd W0 [0] [a0] x0) (L : Gl 0 W0 [0]) (hm : Vm.zhZ x0 = some r) : Q0 9 [a0] W0 fun Wf v => v = vB r := by
 unfold Vm.zhZ at hm
 refine zaI.of Tryz.func9 rfl rfl rfl rfl (sr (Nb rfl (ssr (mv a0 rfl (Lw.ln x0 h0 rfl (Lw.gt rfl (nl (cn hm (fun hm => ?_) fun hm => ?_))))))))
 ·exact sr (Nb rfl (.ret (rt hm (Le.refl _ _))))
 ·refine sk (sr (mv a0 rfl (cr hm (fun _ => p50 (k0 := 2) (k1 := 3) h0) ?_)))
  rintro a _ W4 hm l4 ⟨z, E, rfl, b9, cb⟩
  have a5 := l4.o
  refine mv (.tuple [.agg [z, E].toArray, vS a.2.1, vS a.2.2.1, vI a.2.2.2].toArray) rfl (Lw.r rfl (R.ext (vs := [.agg [z, E].toArray, vS a.2.1, vS a.2.2.1, vI a.2.2.2]) (v := .agg [z, E].toArray) rfl rfl) (Lw.r rfl (R.ext (vs := [.agg [z, E].toArray, vS a.2.1, vS a.2.2.1, vI a.2.2.2]) (v := vS a.2.1) rfl rfl) (Lw.r rfl (R.ext (vs := [.agg [z, E].toArray, vS a.2.1, vS a.2.2.1, vI a.2.2.2]) (v := vS a.2.2.1) rfl rfl) (Lw.r rfl (R.ext (vs := [.agg [z, E].toArray, vS a.2.1, vS a.2.2.1, vI a.2.2.2]) (v := vI a.2.2.2) rfl rfl) (al 4 [.slice none 0 0, .slice none 0 0] fun g6 W6 l6 b6 => ?_)))))
  have a7 := a5.n l6
  refine sta b6 (zab (b9.up l6).oc (zab (cb.up l6).oc za3)) fun ff l10 cc => ?_
  have cd := a7.t l10
  have ce := (b9.up l6).up l10
  have cf := (cb.up l6).up l10
  refine Gs rfl (Gs rfl (Ni rfl (sr (la cc (ms rfl (ms rfl (mi rfl (cr hm (fun _ => p51 (K := [0, 2, 3]) (k0 := 5) (k1 := 6) (x0 := (Vm.Repo.mk a.1.Commits a.1.Heads)) ((Repo.rd (K := [2, 3]) a.1.Commits a.1.Heads (ce.rd.sub (M := [2, 3]) rfl) (cf.rd.sub (M := [2, 3]) rfl)).sub (M := [0, 2, 3]) rfl) ((L.ul cd).sub (M := [0, 2, 3]) rfl)) ?_))))))))
  rintro b _ fg hm a1 ⟨N, Z, rfl, cg, ch⟩
  have c4 := cd.n a1
  refine mv (.tuple [.agg [N, Z].toArray, vI b.2].toArray) rfl (Lw.r rfl (R.ext (vs := [.agg [N, Z].toArray, vI b.2]) (v := .agg [N, Z].toArray) rfl rfl) (Lw.r rfl (R.ext (vs := [.agg [N, Z].toArray, vI b.2]) (v := vI b.2) rfl rfl) (al 7 [.slice none 0 0, .slice none 0 0] fun fh fi G c5 => ?_)))
  have c6 := c4.n G
  refine sta c5 (zab (cg.up G).oc (zab (ch.up G).oc za3)) fun fj aa c7 => ?_
  have c8 := c6.t aa
  have ci := ((ce.up a1).up G).up aa
  have cj := ((cf.up a1).up G).up aa
  have ck := ((cc.up a1).up G).up aa
  refine Ni rfl (sr (la ck (ms rfl (ms rfl (mi rfl (cr hm (fun _ => p52 (K := [2, 3]) (x0 := (Vm.Repo.mk a.1.Commits a.1.Heads)) (Repo.rd (K := [2, 3]) a.1.Commits a.1.Heads (ci.rd.sub (M := [2, 3]) rfl) (cj.rd.sub (M := [2, 3]) rfl))) ?_))))))
  rintro A _ fm hm O ⟨ak, am, rfl, da, db⟩
  have a2 := da.sub (M := [0, 2, 3]) rfl
  have a3 := db.sub (M := [0, 2, 3]) rfl
  have dc := c8.n O
  refine mv (.tuple [.agg [ak, am].toArray, vI A.2].toArray) rfl (Lw.r rfl (R.ext (vs := [.agg [ak, am].toArray, vI A.2]) (v := .agg [ak, am].toArray) rfl rfl) (Lw.r rfl (R.ext (vs := [.agg [ak, am].toArray, vI A.2]) (v := vI A.2) rfl rfl) (al 8 [.slice none 0 0, .slice none 0 0] fun fn fo h dd => ?_)))
  have de := dc.n h
  refine sta dd (zab a2.oc (zab a3.oc za3)) fun cl i cm => ?_
  have co := de.t i
  have bc := ((ci.up O).up h).up i
  have be := ((cj.up O).up h).up i
  have cp := ((((cg.up G).up aa).up O).up h).up i
  have cq := ((((ch.up G).up aa).up O).up h).up i
  have bg := ((ck.up O).up h).up i
  have ct := ((c7.up O).up h).up i
  refine Ni rfl (Cw.seq ?_)
  obtain ⟨df, dg, hm⟩ := zc1 hm
  refine Cw.join 41 54 [54] (fun l w => ∃ bh an, CW.w an = w ∧ Le [] cl an ∧ l = [vB bh] ∧ df bh = some r) ?_ ?_
  ·rintro _ _ σ ⟨bh, an, rfl, d, rfl, hm⟩
   rw [dg] at hm
   have a4 := co.n d
   have ao := cp.up d
   have ap := cq.up d
   have aq := ct.up d
   refine cn hm (fun hm => ?_) fun hm => ?_
   ·obtain ⟨dh, di, hm⟩ := zc1 hm
    refine Cw.join 55 62 [2] (fun l w => ∃ bi bj, CW.w bj = w ∧ Le [] an bj ∧ l = [vB bi] ∧ dh bi = some r) ?_ ?_
    ·rintro _ _ σ ⟨bi, bj, rfl, dj, rfl, hm⟩
     rw [di] at hm
     have dk := a4.n dj
     exact .ret (rt hm dk)
    ·refine rg (mi rfl (mi rfl (Lw.eq rfl (mb rfl (bs hm (fun ar hm => ?_) fun ar hm => ?_)))))
     ·refine wak 3 ar (la aq (la (cm.up d) ?_))
      have dl := a2.up ((h.sub (M := [8]) rfl).trans ((i.sub (M := [8]) rfl).trans (d.sub (M := [8]) rfl))) rfl
      have dm := a3.up ((h.sub (M := [8]) rfl).trans ((i.sub (M := [8]) rfl).trans (d.sub (M := [8]) rfl))) rfl
      exact ca hm (fun _ => p45 (K := [0, 2, 3, 5, 6]) (x0 := (Vm.Repo.mk b.1.Commits b.1.Heads)) ((Repo.rd (K := [5, 6]) b.1.Commits b.1.Heads (ao.rd.sub (M := [5, 6]) rfl) (ap.rd.sub (M := [5, 6]) rfl)).sub (M := [0, 2, 3, 5, 6]) rfl) ((Repo.rd (K := [0, 2, 3]) A.1.Commits A.1.Heads dl dm).sub (M := [0, 2, 3, 5, 6]) rfl)) fun dn dp hm dq => Pb ar rfl (Nb rfl ((ag) ⟨dn, dp, rfl, dq, rfl, hm⟩))
     ·exact psk 3 ar rfl (Pb ar rfl (Nb rfl ((ag) ⟨false, an, rfl, Le.refl _ _, rfl, hm⟩)))
   ·refine sk (ssr (mi rfl (Lw.ne rfl (nl (cn hm (fun hm => ?_) fun hm => ?_)))))
    ·refine sr (la aq (la (bg.up d) (ca hm (fun _ => p45 (K := [2, 3, 5, 6]) (x0 := (Vm.Repo.mk b.1.Commits b.1.Heads)) (x1 := (Vm.Repo.mk a.1.Commits a.1.Heads)) ((Repo.rd (K := [5, 6]) b.1.Commits b.1.Heads (ao.rd.sub (M := [5, 6]) rfl) (ap.rd.sub (M := [5, 6]) rfl)).sub (M := [2, 3, 5, 6]) rfl) ((Repo.rd (K := [2, 3]) a.1.Commits a.1.Heads ((bc.up d).rd.sub (M := [2, 3]) rfl) ((be.up d).rd.sub (M := [2, 3]) rfl)).sub (M := [2, 3, 5, 6]) rfl)) fun fp fq hm dr => ?_)))
     have ds := a4.n dr
     exact Nb rfl (.ret (rt hm ds))
    ·refine sk (sr (la aq (ms rfl (ca hm (fun _ => p46 (K := [0, 5, 6]) (x0 := (Vm.Repo.mk b.1.Commits b.1.Heads)) ((Repo.rd (K := [5, 6]) b.1.Commits b.1.Heads (ao.rd.sub (M := [5, 6]) rfl) (ap.rd.sub (M := [5, 6]) rfl)).sub (M := [0, 5, 6]) rfl) ((L.ul a4).sub (M := [0, 5, 6]) rfl)) fun dt fr hm k => ?_))))
     have cu := a4.n k
     refine Ni rfl (sr (la (aq.up k) (mi rfl (cr hm (fun _ => p23 (K := [0, 5, 6]) (k0 := 9) (x0 := (Vm.Repo.mk b.1.Commits b.1.Heads)) ((Repo.rd (K := [5, 6]) b.1.Commits b.1.Heads ((ao.up k).rd.sub (M := [5, 6]) rfl) ((ap.up k).rd.sub (M := [5, 6]) rfl)).sub (M := [0, 5, 6]) rfl) ((L.ul cu).sub (M := [0, 5, 6]) rfl)) ?_))))
     rintro a6 _ fs hm F ⟨ac, rfl, du⟩
     have dv := cu.n F
     refine mv (.tuple [ac, vB a6.2].toArray) rfl (Lw.r rfl (R.ext (vs := [ac, vB a6.2]) (v := ac) rfl rfl) (Lw.r rfl (R.ext (vs := [ac, vB a6.2]) (v := vB a6.2) rfl rfl) (Gv ac rfl (Nb rfl (sr (Lw.t rfl (T.lit0 (α := File) 10 []) ?_))))))
     rintro bk _ ⟨ft, rfl, B, dw⟩
     have dx := dv.n B
     refine Nv bk rfl ?_
     have dy := a2.up ((h.sub (M := [8]) rfl).trans ((i.sub (M := [8]) rfl).trans ((d.sub (M := [8]) rfl).trans ((k.sub (M := [8]) rfl).trans ((F.sub (M := [8]) rfl).trans (B.sub (M := [8]) rfl)))))) rfl
     have dz := a3.up ((h.sub (M := [8]) rfl).trans ((i.sub (M := [8]) rfl).trans ((d.sub (M := [8]) rfl).trans ((k.sub (M := [8]) rfl).trans ((F.sub (M := [8]) rfl).trans (B.sub (M := [8]) rfl)))))) rfl
     obtain ⟨bl, d0, H, bm⟩ := zlp _ 2
     rw [← d0]
     have fu : Rd bl [0, 3] [ak] A.1.Commits := by rw [bm]; exact (dy.dye 2).sub (M := [0, 3]) rfl
     have fv : Rd bl [0, 3] [am] A.1.Heads := by rw [bm]; exact (dz.dye 2).sub (M := [0, 3]) rfl
     have ae : Rd (α := List Vm.Commit) bl [0] [z] a.1.Commits := by rw [bm]; exact (((((bc.up d).up k).up F).up B).rd.dye 2).sub (M := [0]) rfl
     have a8 := dx.t H
     obtain ⟨bn, d1, P, d2⟩ := zlp _ 10
     rw [← d1]
     have d3 : Rd (α := List Vm.File) bn [0] [bk] ([] : List File) := by rw [d2]; exact ((dw.up H).rd.dye 10).sub (M := [0]) rfl
     have C := P.s
     have a9 := (((((bg.up d).up k).up F).up B).up H).up P
     obtain ⟨d4, d5, hm⟩ := zc1 hm
     refine Cw.join 78 98 [14] (fun l w => ∃ bp ba au, CW.w au = w ∧ Le [] bn au ∧ l = [ba] ∧ Rd au [0] [ba] bp ∧ d4 bp = some r) ?_ ?_
     ·rintro _ _ σ ⟨bp, ba, au, rfl, Q, rfl, r174, hm⟩
      rw [d5] at hm
      have S := Q.o
      obtain ⟨d6, d7, hm⟩ := zc1 hm
      refine Cw.join 99 130 [2] (fun l w => ∃ bq br, CW.w br = w ∧ Le [] au br ∧ l = [vB bq] ∧ d6 bq = some r) ?_ ?_
      ·rintro _ _ σ ⟨bq, br, rfl, d8, rfl, hm⟩
       rw [d7] at hm
       have d9 := ((a8.trans C).trans S).n d8
       exact .ret (rt hm d9)
      ·refine Cw.draw [] [(0, 1), (1, 2), (2, 0), (3, 1), (4, 1), (5, 2), (6, 0), (7, 0), (8, 0), (9, 1), (10, 0), (11, 0), (12, 0), (13, 1), (14, 1), (15, 0), (16, 2), (17, 2), (18, 2), (19, 0), (20, 0), (21, 0), (22, 1), (23, 0), (24, 2), (25, 0), (26, 0), (27, 0), (28, 0), (29, 2), (30, 0), (31, 0), (32, 0)] mixed (by kernel_rfl) fun fw x => ?_
       have U := x.o
       have av := ((((((ao.up k).up F).up B).up H).up P).up Q).up x
       have cv := ((((((ap.up k).up F).up B).up H).up P).up Q).up x
       have bu := (a9.up Q).up x
       have bv := ((((((aq.up k).up F).up B).up H).up P).up Q).up x
       refine Mw.q rfl rfl (fun _ c => R.lda (cs := [N, Z]) (bv.clcs rfl c) rfl rfl) ?_
       obtain ⟨fx, ea, hm⟩ := ob hm
       refine Mw.t rfl rfl (T.call rfl (p22 (K := [0, 5, 6])  (x0 := (Vm.Repo.mk b.1.Commits b.1.Heads)) ((Repo.rd (K := [5, 6]) b.1.Commits b.1.Heads (av.rd.sub (M := [5, 6]) rfl) (cv.rd.sub (M := [5, 6]) rfl)).sub (M := [0, 5, 6]) rfl) ((L.ul (((a8.trans C).trans S).trans U)).sub (M := [0, 5, 6]) rfl) ea)) ?_
       rintro _ _ ⟨eb, rfl, y, rfl⟩
       have af := y.o
       have bw := ((((((((be.up d).up k).up F).up B).up H).up P).up Q).up x).up y
       refine m0 y fun ec => Db rfl (bs hm (fun V hm => ?_) fun V hm => ?_)
       ·refine Wq V rfl (fun _ c => R.lda (cs := [N, Z]) (bv.clcs rfl c) rfl rfl) (Wq V rfl (fun _ c => R.lda (cs := [z, E]) (bu.clcs rfl c) rfl rfl) ?_)
        obtain ⟨ed, ee, hm⟩ := ob hm
        refine Wt V rfl (T.call rfl (p48 (K := [0, 3, 5, 6])  (x0 := (Vm.Repo.mk b.1.Commits b.1.Heads)) (x1 := (Vm.Repo.mk a.1.Commits a.1.Heads)) ((Repo.rd (K := [5, 6]) b.1.Commits b.1.Heads ((av.up y).rd.sub (M := [5, 6]) rfl) ((cv.up y).rd.sub (M := [5, 6]) rfl)).sub (M := [0, 3, 5, 6]) rfl) ((Repo.rd (K := [0, 3]) a.1.Commits a.1.Heads ((ae.ul (((C.trans S).trans U).trans af)).sub (M := [0, 3]) rfl) (bw.rd.sub (M := [0, 3]) rfl)).sub (M := [0, 3, 5, 6]) rfl) ee)) ?_
        rintro _ _ ⟨ef, rfl, D, rfl⟩
        have aw := D.o
        refine mc ec D fun eg => Mw.p rfl rfl (fun _ => R.pk V rfl (v := vB ed) rfl) (Db rfl (bs hm (fun e hm => ?_) fun e hm => ?_))
        ·refine Wp e rfl (fun _ => R.fa rfl) (Wq e rfl (fun _ c => R.ld (v := N) rfl rfl (bv.clc rfl rfl c)) (Wp e rfl (fun _ => R.mv (v := vI dt) rfl) ?_))
         obtain ⟨fy, bz, hm⟩ := ob hm
         refine Wp e rfl (fun _ => R.ix (α := Commit) av.rd bz rfl rfl rfl) (Wp e rfl (fun _ => R.fa rfl) ?_)
         obtain ⟨fz, c234, r235⟩ := (Commit.at0 (av.rd.at_ bz)).cell rfl
         refine Wq e rfl (fun _ c => R.ld rfl rfl (zaE (Commit.at0 (av.rd.at_ bz)).1 rfl c234 c)) (Wq e rfl (fun _ c => R.lda (cs := [z, E]) (bu.clcs rfl c) rfl rfl) (Wp e rfl (fun _ => R.mv (v := vS a.2.1) rfl) ?_))
         obtain ⟨cw, eh, hm⟩ := ob hm
         refine Wt e rfl (T.call rfl (p46 (K := [0, 3])  (x0 := (Vm.Repo.mk a.1.Commits a.1.Heads)) (Repo.rd (K := [0, 3]) a.1.Commits a.1.Heads ((ae.ul ((((C.trans S).trans U).trans af).trans aw)).sub (M := [0, 3]) rfl) ((bw.up D).rd.sub (M := [0, 3]) rfl)) ((L.ul (((((a8.trans C).trans S).trans U).trans af).trans aw)).sub (M := [0, 3]) rfl) eh)) ?_
         rintro _ _ ⟨ei, rfl, I, rfl⟩
         have b0 := I.o
         refine mc eg I fun ej => Wt e rfl (T.bsS (α := Int) (xs := [cw]) 11 [] (W := ei) [vI cw] (Each.cons ((rdI _)) Each.nil) rfl) ?_
         rintro f0 _ ⟨f1, rfl, J, ek⟩
         have b1 := J.o
         refine mc ej J fun el => ?_
         have em := r235.up ((y.sub (M := []) rfl).trans ((D.sub (M := []) rfl).trans ((I.sub (M := []) rfl).trans (J.sub (M := []) rfl)))) rfl
         obtain ⟨en, eo, hm⟩ := ob hm
         refine Wt e rfl (T.call rfl (p49 (K := [5, 11])  (em.sub (M := [5, 11]) rfl) (ek.rd.sub (M := [5, 11]) rfl) eo)) ?_
         rintro _ _ ⟨ep, rfl, X, rfl⟩
         have b2 := X.o
         refine mc el X fun er => Mw.p rfl rfl (fun _ => R.pk e rfl (v := vB en) rfl) (Db rfl (bs hm (fun f hm => ?_) fun f hm => ?_))
         ·refine Wp f rfl (fun _ => R.mv (v := vI a.2.2.2) rfl) (Wq f rfl (fun _ c => R.lda (cs := [z, E]) (bu.clcs rfl c) rfl rfl) (Wp f rfl (fun _ => R.mv (v := vS a.2.1) rfl) ?_))
          obtain ⟨es, et, hm⟩ := ob hm
          refine Wt f rfl (T.call rfl (p46 (K := [0, 3])  (x0 := (Vm.Repo.mk a.1.Commits a.1.Heads)) (Repo.rd (K := [0, 3]) a.1.Commits a.1.Heads ((ae.ul (((((((C.trans S).trans U).trans af).trans aw).trans b0).trans b1).trans b2)).sub (M := [0, 3]) rfl) (((((bw.up D).up I).up J).up X).rd.sub (M := [0, 3]) rfl)) ((L.ul ((((((((a8.trans C).trans S).trans U).trans af).trans aw).trans b0).trans b1).trans b2)).sub (M := [0, 3]) rfl) et)) ?_
          rintro _ _ ⟨eu, rfl, ax, rfl⟩
          have ew := (((((U.trans af).trans aw).trans b0).trans b1).trans b2).n ax
          refine mc er ax fun ex => Wp f rfl (fun _ => R.ne rfl rfl) (Wp f rfl (fun _ => R.mv (v := vB ((a.2.2.2 : Int) != (es : Int))) rfl) (bs hm (fun Y hm => ?_) fun Y hm => ?_))
          ·exact dps 3 Y rfl (Wp f rfl (fun _ => R.pk Y rfl (v := vB true) rfl) (Mw.p rfl rfl (fun _ => R.pk f rfl (v := vB true) rfl) (Hb rfl (Mw.nil ((ag) ⟨true, eu, rfl, ((((((x.j y).j D).j I).j J).j X).j ax).w, rfl, hm⟩)))))
          ·refine Wp Y rfl (fun _ => R.mv (v := ac) rfl) (Wp Y rfl (fun _ => R.mv (v := ba) rfl) ?_)
           obtain ⟨b3, ey, hm⟩ := ob hm
           refine Wt Y rfl (T.call rfl (p21 (K := [0, 9])  ((((((((((((du.up B).up H).up P).up Q).up x).up y).up D).up I).up J).up X).up ax).rd.sub (M := [0, 9]) rfl) ((r174.ul ew).sub (M := [0, 9]) rfl) ey)) ?_
           rintro _ _ ⟨ez, rfl, cx, rfl⟩
           exact mc ex cx fun f2 => Wp f rfl (fun _ => R.pk Y rfl (v := vB b3) rfl) (Mw.p rfl rfl (fun _ => R.pk f rfl (v := vB b3) rfl) (Hb rfl (Mw.nil ((ag) ⟨b3, ez, rfl, (((((((x.j y).j D).j I).j J).j X).j ax).j cx).w, rfl, hm⟩))))
         ·exact dps 6 f rfl (dpu 3 rfl (dps 1 f rfl (Mw.p rfl rfl (fun _ => R.pk f rfl (v := vB false) rfl) (Hb rfl (Mw.nil ((ag) ⟨false, ep, rfl, (((((x.j y).j D).j I).j J).j X).w, rfl, hm⟩))))))
        ·exact dps 11 e rfl (Mw.p rfl rfl (fun _ => R.pk e rfl (v := vB false) rfl) (Db rfl (dps 6 rfl rfl (dpu 3 rfl (dps 1 rfl rfl (Mw.p rfl rfl (fun _ => R.pk rfl rfl (v := vB false) rfl) (Hb rfl (Mw.nil ((ag) ⟨false, ef, rfl, ((x.j y).j D).w, rfl, hm⟩)))))))))
       ·exact dps 3 V rfl (Mw.p rfl rfl (fun _ => R.pk V rfl (v := vB false) rfl) (Db rfl (dps 11 rfl rfl (Mw.p rfl rfl (fun _ => R.pk rfl rfl (v := vB false) rfl) (Db rfl (dps 6 rfl rfl (dpu 3 rfl (dps 1 rfl rfl (Mw.p rfl rfl (fun _ => R.pk rfl rfl (v := vB false) rfl) (Hb rfl (Mw.nil ((ag) ⟨false, eb, rfl, (x.j y).w, rfl, hm⟩))))))))))))
     ·refine sr (fl a9 rfl (mi rfl ?_))
      obtain ⟨e0, cy, hm⟩ := ob hm
      refine Lw.r rfl (R.ix (α := Commit) (ae.ul C) cy rfl rfl rfl) (Lw.fa rfl ?_)
      obtain ⟨f3, c304, r305⟩ := (Commit.at0 ((ae.ul C).at_ cy)).cell rfl
      refine Lw.r rfl (R.ld rfl rfl c304) (Lw.ln e0.Parents r305 rfl (Lw.gt rfl (nl (cn hm (fun hm => ?_) fun hm => ?_))))
      ·refine Cw.draw [] [(0, 0), (1, 1), (2, 0), (3, 1), (4, 0), (5, 0), (6, 0), (7, 1), (8, 0), (9, 1), (10, 0), (11, 0), (12, 1), (13, 0)] mixed (by kernel_rfl) fun e1 bb => ?_
       have e2 := C.n bb
       refine Dfl (a9.up bb) rfl rfl rfl (Dfl (a9.up bb) rfl rfl rfl (Di rfl ?_))
       obtain ⟨f4, b4, hm⟩ := ob hm
       have ah := ae.ul e2
       refine Mw.p rfl rfl (fun _ => R.ix (α := Commit) ah b4 rfl rfl rfl) (Df rfl ?_)
       obtain ⟨f5, c320, r321⟩ := (Commit.at0 (ah.at_ b4)).cell rfl
       refine Mw.q rfl rfl (fun _ c => R.ld rfl rfl (zaE (Commit.at0 (ah.at_ b4)).1 rfl c320 c)) ?_
       obtain ⟨f6, b5, hm⟩ := ob hm
       refine Mw.p rfl rfl (fun _ => R.ix (α := Int) r321 b5 rfl rfl rfl) (Mw.q rfl rfl (fun _ c => R.ld rfl rfl (zaE (r321.at_ b5).1 rfl (r321.at_ b5).int c)) ?_)
       obtain ⟨e3, b7, hm⟩ := ob hm
       refine Mw.p rfl rfl (fun _ => R.ix (α := Commit) ah b7 rfl rfl rfl) (Df rfl ?_)
       obtain ⟨cz, c327, r328⟩ := (Commit.at2 (ah.at_ b7)).cell rfl
       exact Mw.q rfl rfl (fun _ c => R.ld rfl rfl (zaE (Commit.at2 (ah.at_ b7)).1 rfl c327 c)) (Hv cz rfl (Mw.nil ((ag) ⟨e3.Tree, cz, e1, rfl, bb, rfl, r328, hm⟩)))
      ·exact sk ((ag) ⟨([] : List File), bk, bn, rfl, Le.refl _ _, rfl, d3, hm⟩)
  ·refine rg (mi rfl (mi rfl (Lw.ne rfl (mb rfl (bs hm (fun ay hm => ?_) fun ay hm => ?_)))))
   ·exact psk 4 ay rfl (Pb ay rfl (mb rfl (psk 3 rfl rfl (Pb rfl rfl (nl ((ag) ⟨true, cl, rfl, Le.refl _ _, rfl, hm⟩))))))
   ·refine wak 4 ay (la ct (la cm ?_))
    have e4 := a2.up ((h.sub (M := [8]) rfl).trans (i.sub (M := [8]) rfl)) rfl
    have e5 := a3.up ((h.sub (M := [8]) rfl).trans (i.sub (M := [8]) rfl)) rfl
    refine ca hm (fun _ => p45 (K := [0, 2, 3, 5, 6]) (x0 := (Vm.Repo.mk b.1.Commits b.1.Heads)) ((Repo.rd (K := [5, 6]) b.1.Commits b.1.Heads (cp.rd.sub (M := [5, 6]) rfl) (cq.rd.sub (M := [5, 6]) rfl)).sub (M := [0, 2, 3, 5, 6]) rfl) ((Repo.rd (K := [0, 2, 3]) A.1.Commits A.1.Heads e4 e5).sub (M := [0, 2, 3, 5, 6]) rfl)) fun f7 e6 hm ai => ?_
    have e7 := co.n ai
    refine Lw.r rfl (R.not rfl) (Pb ay rfl (mb rfl (bs hm (fun az hm => ?_) fun az hm => ?_)))
    ·exact psk 3 az rfl (Pb az rfl (nl ((ag) ⟨true, e6, rfl, ai, rfl, hm⟩)))
    ·exact wak 3 az (la (bg.up ai) (ca hm (fun _ => p22 (K := [0, 2, 3]) (x0 := (Vm.Repo.mk a.1.Commits a.1.Heads)) ((Repo.rd (K := [2, 3]) a.1.Commits a.1.Heads ((bc.up ai).rd.sub (M := [2, 3]) rfl) ((be.up ai).rd.sub (M := [2, 3]) rfl)).sub (M := [0, 2, 3]) rfl) ((L.ul e7).sub (M := [0, 2, 3]) rfl)) fun e8 e9 hm fb => Lw.r rfl (R.not rfl) (Pb az rfl (nl ((ag) ⟨(!e8), e9, rfl, (ai.j fb).w, rfl, hm⟩)))))
theorem p9 {x0 a r} (b : Rd W K [a] x0) (d : Gl 0 W K) (hm : Vm.zhZ x0 = some r) : Q1 9 [a] W [] fun W' v => v = vB r :=
 (c9 (b.view _) (d.view _) hm).ad (fk 0) fun _ _ e => e
end Go.Sx
