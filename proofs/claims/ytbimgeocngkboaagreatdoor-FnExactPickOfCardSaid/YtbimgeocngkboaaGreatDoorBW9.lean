/- Walks: each function answers as its model, printed by a program of ours. Conditions: the arguments read as they are given. -/
import Derived.Test.YtbimgeocngkboaaGreatDoorBTs
import Derived.Test.YtbimgeocngkboaaGreatDoorBM2
import Derived.Test.YtbimgeocngkboaaGreatDoorBW0
import Derived.Test.YtbimgeocngkboaaGreatDoorBW1
import Derived.Test.YtbimgeocngkboaaGreatDoorBW3
import Derived.Test.YtbimgeocngkboaaGreatDoorBW6
import Derived.Test.YtbimgeocngkboaaGreatDoorBW7
namespace Go.Sx
open Go Go.Proofs Go.Vm Rp
set_option linter.unusedVariables false
set_option linter.unusedSimpArgs false
variable {W W0 : CW} {K : List Nat}
theorem c15 {x0 ah ai x1 x2 x3 r} (h0 : Rd W0 [0] [ah, ai] x0) (hm : Vm.spec_PickOf x0 x1 x2 x3 = some r) : Q0 15 [.agg [ah, ai].toArray, vS x1, vS x2, vI x3] W0 fun Wf v => ∃ aj ak, v = .tuple [.agg [aj, ak].toArray, vI r.2].toArray ∧ Rd Wf [0] [aj] r.1.Commits ∧ Rd Wf [0] [ak] r.1.Heads := by
 unfold Vm.spec_PickOf at hm
 obtain ⟨dc, dd, am, z, H⟩ := Repo.split h0
 simp only [List.cons.injEq, and_true, true_and] at am
 obtain ⟨rfl, rfl⟩ := am
 refine CallR.of Tryz.func15 rfl rfl rfl rfl (sr (bo 2 rfl fun g1 W1 l1 b1 => ?_))
 have a2 := l1.o
 refine al 3 [.slice none 0 0, .slice none 0 0] fun g3 W3 Q b3 => ?_
 have S := a2.n Q
 refine Ni rfl (ssr (la (b1.up Q) (ca hm (fun _ => p19 (Repo.rd (K := [0]) x0.Commits x0.Heads (z.ul S) (H.ul S))) fun z8 bg hm l10 => ?_)))
 have A := S.n l10
 have I := (b1.up Q).up l10
 refine Lw.r rfl (R.not rfl) (nl (cn hm (fun hm => ?_) fun hm => ?_))
 ·refine sr (Lw.r rfl (R.bd (zs := [.slice none 0 0, .slice none 0 0]) (cs := [.slice none 0 0, .slice none 0 0]) [] rfl rfl rfl bp_nil) (sta (b3.up l10) (oc_cons rfl (oc_cons rfl oc_nil)) fun dj bh bi => ?_))
  have bj := A.t bh
  refine Ni rfl ?_
  cases hm
  exact Cw.ret (retA2 rfl bi rfl (Res.mk bj ⟨.slice none 0 0, .slice none 0 0, rfl, (rdN (K := [0])), (rdN (K := [0]))⟩))
 ·refine sk (Cw.seq ?_)
  obtain ⟨bk, bl, hm⟩ := jn_e hm
  refine Cw.join 15 32 [32] (fun l w => ∃ U V, CW.w V = w ∧ Le [] bg V ∧ l = [vB U] ∧ bk U = some r) ?_ ?_
  ·rintro _ _ σ ⟨U, V, rfl, J, rfl, hm⟩
   rw [bl] at hm
   have k := A.n J
   have ap := (b3.up l10).up J
   refine cn hm (fun hm => ?_) fun hm => ?_
   ·refine sr (la (I.up J) (cr hm (fun _ => p23 (k0 := 4) (k1 := 5) (Repo.rd (K := [0]) x0.Commits x0.Heads (z.ul k) (H.ul k))) ?_))
    rintro aq _ dk hm ar ⟨au, av, rfl, aw, ax⟩
    have bm := k.n ar
    refine sta (ap.up ar) (oc_cons aw.oc (oc_cons ax.oc oc_nil)) fun dl W bn => ?_
    have bp := bm.t W
    refine Ni rfl ?_
    obtain ⟨bq, br, X, bu⟩ := dyeE _ 4
    have bv : Rd (α := List Vm.Commit) bq [0] [au] aq.Commits := by rw [bu]; exact ((aw.up W).rd.dye 4).sub (M := [0]) rfl
    have bw := bp.t X
    obtain ⟨bz, b0, ay, b2⟩ := dyeE _ 5
    have b4 : Rd (α := List Vm.Head) bz [0] [av] aq.Heads := by rw [b2]; exact (((ax.up W).up X).rd.dye 5).sub (M := [0]) rfl
    have az := ay.s
    cases hm
    rw [← b0.trans (br)]
    exact Cw.ret (retA2 rfl ((bn.up X).up ay) rfl (Res.mk (bw.trans az) ⟨au, av, rfl, (bv.ul az), b4⟩))
   ·refine sk (sr (la (I.up J) (cr hm (fun _ => p23 (k0 := 6) (k1 := 7) (Repo.rd (K := [0]) x0.Commits x0.Heads (z.ul k) (H.ul k))) ?_)))
    rintro a _ dm hm a0 ⟨Y, Z, rfl, a1, a3⟩
    have b5 := k.n a0
    refine al 8 [.slice none 0 0, .slice none 0 0] fun dn dp x b6 => ?_
    have b7 := b5.n x
    refine sta b6 (oc_cons (a1.up x).oc (oc_cons (a3.up x).oc oc_nil)) fun dq L b8 => ?_
    have b9 := b7.t L
    refine nl (Cw.seq (Cw.draw [] [(0, 1), (1, 0), (2, 0), (3, 1), (4, 0), (6, 0), (7, 1), (8, 0), (9, 0), (10, 0), (11, 1), (5, 2), (12, 2), (13, 0), (14, 0), (15, 3), (16, 0)] mixed (by kernel_rfl) fun dr B => ?_))
    have cb := b9.n B
    have y := ((a1.up x).up L).up B
    have aa := ((a3.up x).up L).up B
    have ac := b8.up B
    refine Mw.q rfl rfl (fun _ c => R.lda (cs := [Y, Z]) (ac.clcs rfl c) rfl rfl) (Ds rfl (Ds rfl (Mw.q rfl rfl (fun _ c => R.lda (cs := [Y, Z]) (ac.clcs rfl c) rfl rfl) (Di rfl (Dfl ac rfl rfl rfl (Di rfl ?_))))))
    obtain ⟨cc, ae, hm⟩ := ob hm
    refine Mw.p rfl rfl (fun _ => R.ix (α := Commit) y.rd ae rfl rfl rfl) (Df rfl ?_)
    obtain ⟨cd, c80, r81⟩ := (Commit.at2 (y.rd.at_ ae)).cell rfl
    refine Mw.q rfl rfl (fun _ c => R.ld rfl rfl (cl_cell (Commit.at2 (y.rd.at_ ae)).1 rfl c80 c)) ?_
    obtain ⟨a5, ce, hm⟩ := ob hm
    refine Mw.t rfl rfl (T.call rfl (p36 (K := [6, 7])  (x0 := (Vm.Repo.mk a.Commits a.Heads)) (Repo.rd (K := [6, 7]) a.Commits a.Heads (y.rd.sub (M := [6, 7]) rfl) (aa.rd.sub (M := [6, 7]) rfl)) ce)) ?_
    rintro a6 _ ⟨ds, rfl, b, ⟨_, rfl, cf⟩⟩
    have a7 := cf.sub (M := [0, 6, 7]) rfl
    have cg := cb.n b
    refine m0 b fun ch => ?_
    have ci := r81.up (b.sub (M := []) rfl) rfl
    obtain ⟨d, cj, hm⟩ := ob hm
    refine Mw.t rfl rfl (T.call rfl (p35 (K := [0, 6, 7])  (x0 := (Vm.Repo.mk a.Commits a.Heads)) ((Repo.rd (K := [6, 7]) a.Commits a.Heads ((y.up b).rd.sub (M := [6, 7]) rfl) ((aa.up b).rd.sub (M := [6, 7]) rfl)).sub (M := [0, 6, 7]) rfl) a7 (ci.sub (M := [0, 6, 7]) rfl) cj)) ?_
    rintro _ _ ⟨dt, rfl, e, ⟨f, h, rfl, ck, cl⟩⟩
    have a8 := ck.sub (M := [0, 6, 7]) rfl
    have a9 := cl.sub (M := [0, 6, 7]) rfl
    have cm := cg.n e
    refine mc ch e fun du => Mw.p rfl rfl (fun _ => R.ext (vs := [.agg [f, h].toArray, vI d.2]) (v := .agg [f, h].toArray) rfl rfl) (Mw.p rfl rfl (fun _ => R.ext (vs := [.agg [f, h].toArray, vI d.2]) (v := vI d.2) rfl rfl) (Mw.lu rfl (T.sta (vs := [f, h]) ((((((ap.up a0).up x).up L).up B).up b).up e) rfl rfl (oc_cons a8.oc (oc_cons a9.oc oc_nil)) rfl rfl) ?_))
    rintro _ _ ⟨dv, rfl, i, co⟩
    have cp := cm.t i
    refine Hi rfl (Mw.nil ?_)
    have cq := r81.up ((b.sub (M := [3]) rfl).trans ((e.sub (M := [3]) rfl).trans (i.sub (M := [3]) rfl))) rfl
    have ct := a7.up ((e.sub (M := [3]) rfl).trans (i.sub (M := [3]) rfl)) rfl
    have cu := a8.up (i.sub (M := [3]) rfl) rfl
    have cv := a9.up (i.sub (M := [3]) rfl) rfl
    obtain ⟨C, cw, af, D⟩ := dyeE _ 6
    have dw : Rd C [0] [cd] cc.Tree := by rw [D]; exact (cq.dye 6).sub (M := [0]) rfl
    have cx : Rd C [0, 7] [a6] a5 := by rw [D]; exact (ct.dye 6).sub (M := [0, 7]) rfl
    have cy : Rd C [0, 7] [f] d.1.Commits := by rw [D]; exact (cu.dye 6).sub (M := [0, 7]) rfl
    have cz : Rd C [0, 7] [h] d.1.Heads := by rw [D]; exact (cv.dye 6).sub (M := [0, 7]) rfl
    have dx : Rd (α := List Vm.Commit) C [0] [Y] a.Commits := by rw [D]; exact ((((y.up b).up e).up i).rd.dye 6).sub (M := [0]) rfl
    have c0 := cp.t af
    obtain ⟨N, c1, ba, O⟩ := dyeE _ 7
    have dy : Rd N [0] [a6] a5 := by rw [O]; exact (cx.dye 7).sub (M := [0]) rfl
    have c2 : Rd N [0] [f] d.1.Commits := by rw [O]; exact (cy.dye 7).sub (M := [0]) rfl
    have c3 : Rd N [0] [h] d.1.Heads := by rw [O]; exact (cz.dye 7).sub (M := [0]) rfl
    have dz : Rd (α := List Vm.Head) N [0] [Z] a.Heads := by rw [O]; exact (((((aa.up b).up e).up i).up af).rd.dye 7).sub (M := [0]) rfl
    have c4 := c0.t ba
    cases hm
    rw [← c1.trans (cw)]
    exact Cw.ret (retA2 rfl ((co.up af).up ba) rfl (Res.mk c4 ⟨f, h, rfl, c2, c3⟩))
  ·refine rg (la I (ms rfl (ca hm (fun _ => p20 (Repo.rd (K := [0]) x0.Commits x0.Heads (z.ul A) (H.ul A))) fun d0 c5 hm E => ?_)))
   have c6 := A.n E
   refine Lw.lt rfl (mb rfl (bs hm (fun F hm => ?_) fun F hm => ?_))
   ·exact psk 3 F rfl (Pb F rfl (mb rfl (psk 7 rfl rfl (Pb rfl rfl (nl ((ag) ⟨true, c5, rfl, E, rfl, hm⟩))))))
   ·refine wak 3 F (ms rfl (ca hm (fun _ => p21) fun d1 c7 hm P => ?_))
    have c8 := c6.n P
    refine Lw.r rfl (R.not rfl) (Pb F rfl (mb rfl (bs hm (fun G hm => ?_) fun G hm => ?_)))
    ·exact psk 7 G rfl (Pb G rfl (nl ((ag) ⟨true, c7, rfl, (E.j P).w, rfl, hm⟩)))
    ·exact wak 7 G (mi rfl (fl ((I.up E).up P) rfl (Lw.ln x0.Commits (z.ul c8) rfl (Lw.sub rfl (ca hm (fun _ => p22) fun c9 da hm db => Lw.r rfl (R.not rfl) (Pb G rfl (nl ((ag) ⟨(!c9), da, rfl, ((E.j P).j db).w, rfl, hm⟩))))))))
theorem p15 {x0 d f x1 x2 x3 r} (h : Rd W K [d, f] x0) (hm : Vm.spec_PickOf x0 x1 x2 x3 = some r) : Q1 15 [.agg [d, f].toArray, vS x1, vS x2, vI x3] W [] fun W' v => ∃ a b, v = .tuple [.agg [a, b].toArray, vI r.2].toArray ∧ Rd W' (0 :: K) [a] r.1.Commits ∧ Rd W' (0 :: K) [b] r.1.Heads :=
 (c15 (h.view _) hm).ad (fk 0) fun _ _ ⟨a, b, e, i, k⟩ => ⟨a, b, e, i.back rfl, k.back rfl⟩
theorem c16 {x0 z A x1 x2 x3 r} (N : Rd W0 [0] [z, A] x0) (B : Gl 0 W0 [0]) (hm : Vm.impl_PickOf x0 x1 x2 x3 = some r) : Q0 16 [.agg [z, A].toArray, vS x1, vS x2, vI x3] W0 fun Wf v => ∃ C D, v = .tuple [.agg [C, D].toArray, vI r.2].toArray ∧ OwS Wf [31] [] [C] r.1.Commits ∧ OwS Wf [32] [] [D] r.1.Heads := by
 unfold Vm.impl_PickOf at hm
 obtain ⟨af, ah, E, F, G⟩ := Repo.split N
 simp only [List.cons.injEq, and_true, true_and] at E
 obtain ⟨rfl, rfl⟩ := E
 refine CallR.of Tryz.func16 rfl rfl rfl rfl (sr (bo 2 rfl fun g1 W1 O H => ?_))
 have P := O.o
 refine al 3 [.slice none 0 0, .slice none 0 0] fun g3 W3 h I => ?_
 have b := P.n h
 refine Ni rfl (ssr (la (H.up h) (ca hm (fun _ => p27 (Repo.rd (K := [0]) x0.Commits x0.Heads (F.ul b) (G.ul b)) (B.ul b)) fun z9 ao hm d => ?_)))
 have a := b.n d
 refine Lw.r rfl (R.not rfl) (nl (cn hm (fun hm => ?_) fun hm => ?_))
 ·refine sr (Lw.r rfl (R.bd (zs := [.slice none 0 0, .slice none 0 0]) (cs := [.slice none 0 0, .slice none 0 0]) [] rfl rfl rfl bp_nil) (sta (I.up d) (oc_cons rfl (oc_cons rfl oc_nil)) fun ap Q S => ?_))
  have T := a.t Q
  refine Ni rfl ?_
  cases hm
  exact Cw.ret (retA2 rfl S rfl (Res.mk T ⟨.slice none 0 0, .slice none 0 0, rfl, (owsN []).sub rfl rfl, (owsN []).sub rfl rfl⟩))
 ·refine sk (sr (la ((H.up h).up d) (ms rfl (ms rfl (mi rfl (cr hm (fun _ => p37 (k0 := 4) (k1 := 5) (Repo.rd (K := [0]) x0.Commits x0.Heads (F.ul a) (G.ul a)) (B.ul a)) ?_))))))
  rintro i _ aq hm J ⟨e, f, rfl, L, M⟩
  have U := a.n J
  refine Lw.r rfl (R.ext (vs := [.agg [e, f].toArray, vI i.2]) (v := .agg [e, f].toArray) rfl rfl) (Lw.r rfl (R.ext (vs := [.agg [e, f].toArray, vI i.2]) (v := vI i.2) rfl rfl) (sta ((I.up d).up J) (oc_cons L.oc (oc_cons M.oc oc_nil)) fun ar k V => ?_))
  have W := U.t k
  refine Ni rfl ?_
  obtain ⟨au, X, x, Y⟩ := (L.up k).dyeO 31
  have Z := W.t x
  obtain ⟨av, aa, y, ac⟩ := ((M.up k).up x).dyeO 32
  have ae := Z.t y
  cases hm
  rw [← aa.trans (X)]
  exact Cw.ret (retA2 rfl ((V.up x).up y) rfl (Res.mk ae ⟨e, f, rfl, (Y.up y).s, ac.s⟩))
theorem p16 {x0 d f x1 x2 x3 k0 k1 r} (h : Rd W K [d, f] x0) (i : Gl 0 W K) (hm : Vm.impl_PickOf x0 x1 x2 x3 = some r) : Q1 16 [.agg [d, f].toArray, vS x1, vS x2, vI x3] W [] fun W' v => ∃ a b, v = .tuple [.agg [a, b].toArray, vI r.2].toArray ∧ Ow W' k0 [] [a] r.1.Commits ∧ Ow W' k1 [] [b] r.1.Heads :=
 CallR.adJ (J := []) (fun c => bif Nat.beq c 0 then 0 else bif Nat.beq c 31 then k0 else bif Nat.beq c 32 then k1 else 0) (c16 (h.view _) (i.view _) hm) fun _ _ ⟨a, b, e, k, x⟩ => ⟨a, b, e, k.one1.backN rfl, x.one1.backN rfl⟩
theorem c5 {x0 ar au x1 x2 x3 r} (h0 : Rd W0 [0] [ar, au] x0) (a8 : Gl 0 W0 [0]) (hm : Vm.laws_FnExactPickOf x0 x1 x2 x3 = some r) : Q0 5 [.agg [ar, au].toArray, vS x1, vS x2, vI x3] W0 fun Wf v => v = vB r := by
 unfold Vm.laws_FnExactPickOf at hm
 obtain ⟨d7, d8, a9, Q, S⟩ := Repo.split h0
 simp only [List.cons.injEq, and_true, true_and] at a9
 obtain ⟨rfl, rfl⟩ := a9
 refine CallR.of Tryz.func5 rfl rfl rfl rfl (sr (bo 2 rfl fun g1 W1 l1 b1 => ?_))
 have U := l1.o
 refine Nb rfl (ssr (ms rfl (Lw.r rfl (R.lenS rfl) (Lw.gt rfl (nl (cn hm (fun hm => ?_) fun hm => ?_))))))
 ·exact sr (Nb rfl (.ret (rt hm U)))
 ·refine sk (ssr (ms rfl (Lw.r rfl (R.lenS rfl) (Lw.gt rfl (nl (cn hm (fun hm => ?_) fun hm => ?_))))))
  ·exact sr (Nb rfl (.ret (rt hm U)))
  ·refine sk (sr (Ni rfl (sr (la b1 (mi rfl (ca hm (fun _ => p6 (Repo.rd (K := [0]) x0.Commits x0.Heads (Q.ul U) (S.ul U))) fun z7 W9 hm l9 => ?_))))))
   have aa := U.n l9
   refine Ni rfl (ssr (mi rfl (Lw.lt rfl (nl (cn hm (fun hm => ?_) fun hm => ?_)))))
   ·exact sr (Nb rfl (.ret (rt hm aa)))
   ·refine sk (sr (la (b1.up l9) (cr hm (fun _ => p8 (k0 := 3) (k1 := 4) (Repo.rd (K := [0]) x0.Commits x0.Heads (Q.ul aa) (S.ul aa))) ?_)))
    rintro ac _ ed hm ba ⟨ee, ef, rfl, cp, cq⟩
    have ct := aa.n ba
    refine ms rfl (ms rfl (mi rfl (cr hm (fun _ => p15 (K := [3, 4]) (x0 := (Vm.Repo.mk ac.Commits ac.Heads)) (Repo.rd (K := [3, 4]) ac.Commits ac.Heads (cp.rd.sub (M := [3, 4]) rfl) (cq.rd.sub (M := [3, 4]) rfl))) ?_)))
    rintro h _ eg hm bb ⟨ae, af, rfl, cu, cv⟩
    have ah := cu.sub (M := [0, 3, 4]) rfl
    have ai := cv.sub (M := [0, 3, 4]) rfl
    have cw := ct.n bb
    refine mv (.tuple [.agg [ae, af].toArray, vI h.2].toArray) rfl (Lw.r rfl (R.ext (vs := [.agg [ae, af].toArray, vI h.2]) (v := .agg [ae, af].toArray) rfl rfl) (Lw.r rfl (R.ext (vs := [.agg [ae, af].toArray, vI h.2]) (v := vI h.2) rfl rfl) (al 5 [.slice none 0 0, .slice none 0 0] fun eh ei H cx => ?_)))
    have cy := cw.n H
    refine sta cx (oc_cons ah.oc (oc_cons ai.oc oc_nil)) fun ej I cz => ?_
    have ax := cy.t I
    have bc := ((((b1.up l9).up ba).up bb).up H).up I
    refine Ni rfl (sr (la bc (cr hm (fun _ => p8 (k0 := 6) (k1 := 7) (Repo.rd (K := [0]) x0.Commits x0.Heads (Q.ul ax) (S.ul ax))) ?_)))
    rintro B _ ek hm D ⟨c2, c3, rfl, be, bg⟩
    have c4 := ax.n D
    refine al 8 [.slice none 0 0, .slice none 0 0] fun el em i c6 => ?_
    have c7 := c4.n i
    refine sta c6 (oc_cons (be.up i).oc (oc_cons (bg.up i).oc oc_nil)) fun en z bh => ?_
    have bi := c7.t z
    have bj := (be.up i).up z
    have bk := (bg.up i).up z
    refine nl (sr (la bh (ms rfl (ms rfl (mi rfl (cr hm (fun _ => p16 (K := [0, 6, 7]) (k0 := 9) (k1 := 10) (x0 := (Vm.Repo.mk B.Commits B.Heads)) ((Repo.rd (K := [6, 7]) B.Commits B.Heads (bj.rd.sub (M := [6, 7]) rfl) (bk.rd.sub (M := [6, 7]) rfl)).sub (M := [0, 6, 7]) rfl) ((a8.ul bi).sub (M := [0, 6, 7]) rfl)) ?_))))))
    rintro a _ eo hm y ⟨aj, ak, rfl, bl, bm⟩
    have c8 := bi.n y
    refine mv (.tuple [.agg [aj, ak].toArray, vI a.2].toArray) rfl (Lw.r rfl (R.ext (vs := [.agg [aj, ak].toArray, vI a.2]) (v := .agg [aj, ak].toArray) rfl rfl) (Lw.r rfl (R.ext (vs := [.agg [aj, ak].toArray, vI a.2]) (v := vI a.2) rfl rfl) (al 11 [.slice none 0 0, .slice none 0 0] fun ep er b c9 => ?_)))
    have da := c8.n b
    refine sta c9 (oc_cons (bl.up b).oc (oc_cons (bm.up b).oc oc_nil)) fun db d bn => ?_
    have dc := da.t d
    have bp := (bl.up b).up d
    have bq := (bm.up b).up d
    have br := (((((cz.up D).up i).up z).up y).up b).up d
    refine Ni rfl (Cw.seq ?_)
    obtain ⟨dd, de, hm⟩ := jn_e hm
    refine Cw.join 50 58 [58] (fun l w => ∃ ay az, CW.w az = w ∧ Le [] db az ∧ l = [vB ay] ∧ dd ay = some r) ?_ ?_
    ·rintro _ _ σ ⟨ay, az, rfl, k, rfl, hm⟩
     rw [de] at hm
     have bu := dc.n k
     refine cn hm (fun hm => ?_) fun hm => ?_
     ·exact sr (Nb rfl (.ret (rt hm bu)))
     ·refine sk (Cw.seq (Cw.seq (Cw.draw [] [(0, 1), (1, 1), (2, 2), (3, 2), (4, 0)] mixed (by kernel_rfl) fun es x => ?_)))
      have a0 := bu.n x
      have bv := (((((((bc.up D).up i).up z).up y).up b).up d).up k).up x
      have bw := ((((bh.up y).up b).up d).up k).up x
      refine Mw.q rfl rfl (fun _ c => R.lda (cs := [c2, c3]) (bw.clcs rfl c) rfl rfl) (Mw.q rfl rfl (fun _ c => R.lda (cs := [ar, au]) (bv.clcs rfl c) rfl rfl) ?_)
      obtain ⟨am, df, hm⟩ := ob hm
      refine Mw.t rfl rfl (T.call rfl (p8 (k0 := 12) (k1 := 13) (Repo.rd (K := [0]) x0.Commits x0.Heads (Q.ul a0) (S.ul a0)) df)) ?_
      rintro _ _ ⟨et, rfl, e, ⟨eu, ew, rfl, dg, dh⟩⟩
      have di := a0.n e
      have bz := (((((bj.up y).up b).up d).up k).up x).up e
      have b0 := (((((bk.up y).up b).up d).up k).up x).up e
      refine m0 e fun dj => ?_
      obtain ⟨ex, dk, hm⟩ := ob hm
      refine Mw.t rfl rfl (T.call rfl (p10 (K := [6, 7, 12, 13])  (x0 := (Vm.Repo.mk B.Commits B.Heads)) (x1 := (Vm.Repo.mk am.Commits am.Heads)) ((Repo.rd (K := [6, 7]) B.Commits B.Heads (bz.rd.sub (M := [6, 7]) rfl) (b0.rd.sub (M := [6, 7]) rfl)).sub (M := [6, 7, 12, 13]) rfl) ((Repo.rd (K := [12, 13]) am.Commits am.Heads (dg.rd.sub (M := [12, 13]) rfl) (dh.rd.sub (M := [12, 13]) rfl)).sub (M := [6, 7, 12, 13]) rfl) dk)) ?_
      rintro _ _ ⟨ey, rfl, f, rfl⟩
      have b2 := di.n f
      refine mc dj f fun ez => Mw.p rfl rfl (fun _ => R.not rfl) (Mw.nil (cn hm (fun hm => ?_) fun hm => ?_))
      ·exact sr (Nb rfl (.ret (rt hm b2)))
      ·refine sk (sr (Ni rfl (sr (la ((bw.up e).up f) (mi rfl (cr hm (fun _ => p11 (K := [0]) (c0 := 6) (c1 := 7) (x0 := (Vm.Repo.mk B.Commits B.Heads)) (bz.up f) (b0.up f) rfl) ?_))))))
       rintro e0 _ b3 hm C ⟨rfl, e1, e2⟩
       have dl := b2.t C
       have b4 := ((((bp.up k).up x).up e).up f).up C
       have b5 := ((((bq.up k).up x).up e).up f).up C
       have b6 := ((((br.up k).up x).up e).up f).up C
       have a1 := ((((bn.up k).up x).up e).up f).up C
       refine Ni rfl (Cw.seq ?_)
       obtain ⟨dm, dn, hm⟩ := jn_e hm
       refine Cw.join 67 79 [79] (fun l w => ∃ a3 a4, CW.w a4 = w ∧ Le [] b3 a4 ∧ l = [vB a3] ∧ dm a3 = some r) ?_ ?_
       ·rintro _ _ σ ⟨a3, a4, rfl, E, rfl, hm⟩
        rw [dn] at hm
        have b7 := dl.n E
        refine cn hm (fun hm => ?_) fun hm => ?_
        ·exact sr (Nb rfl (.ret (rt hm b7)))
        ·refine sk (sr (Ni rfl (sr (la (a1.up E) (mi rfl (cr hm (fun _ => p11 (K := [0]) (c0 := 9) (c1 := 10) (x0 := (Vm.Repo.mk a.1.Commits a.1.Heads)) (b4.up E) (b5.up E) rfl) ?_))))))
         rintro J _ e3 hm P ⟨rfl, b8, b9⟩
         have dp := b7.t P
         have cb := (a1.up E).up P
         refine Ni rfl (sr (Ni rfl (sr (la cb (mi rfl (ca hm (fun _ => p12 (K := [9, 10]) (x0 := (Vm.Repo.mk J.2.Commits J.2.Heads)) (Repo.rd (K := [9, 10]) J.2.Commits J.2.Heads (b8.rd.sub (M := [9, 10]) rfl) (b9.rd.sub (M := [9, 10]) rfl))) fun e4 e5 hm L => ?_))))))
         have V := dp.n L
         refine Ni rfl (ssr (mi rfl (Lw.lt rfl (nl (cn hm (fun hm => ?_) fun hm => ?_)))))
         ·exact sr (Nb rfl (.ret (rt hm V)))
         ·refine sk (ssr (mi rfl (mi rfl (Lw.ne rfl (nl (cn hm (fun hm => ?_) fun hm => ?_))))))
          ·exact sr (Nb rfl (.ret (rt hm V)))
          ·refine sk (sr (la ((((((bv.up e).up f).up C).up E).up P).up L) (cr hm (fun _ => p8 (k0 := 14) (k1 := 15) (Repo.rd (K := [0]) x0.Commits x0.Heads (Q.ul V) (S.ul V))) ?_)))
           rintro an _ e6 hm N ⟨e7, e8, rfl, dq, dr⟩
           have cc := V.n N
           refine ms rfl (ms rfl (mi rfl (cr hm (fun _ => p16 (K := [0, 14, 15]) (k0 := 16) (k1 := 17) (x0 := (Vm.Repo.mk an.Commits an.Heads)) ((Repo.rd (K := [14, 15]) an.Commits an.Heads (dq.rd.sub (M := [14, 15]) rfl) (dr.rd.sub (M := [14, 15]) rfl)).sub (M := [0, 14, 15]) rfl) ((a8.ul cc).sub (M := [0, 14, 15]) rfl)) ?_)))
           rintro F _ e9 hm O ⟨ao, ap, rfl, cd, ce⟩
           have ds := cc.n O
           refine mv (.tuple [.agg [ao, ap].toArray, vI F.2].toArray) rfl (Lw.r rfl (R.ext (vs := [.agg [ao, ap].toArray, vI F.2]) (v := .agg [ao, ap].toArray) rfl rfl) (Lw.r rfl (R.ext (vs := [.agg [ao, ap].toArray, vI F.2]) (v := vI F.2) rfl rfl) (al 18 [.slice none 0 0, .slice none 0 0] fun fb fc A dt => ?_)))
           have du := ds.n A
           refine sta dt (oc_cons (cd.up A).oc (oc_cons (ce.up A).oc oc_nil)) fun dv G dw => ?_
           have dx := du.t G
           refine Ni rfl (Cw.seq ?_)
           obtain ⟨dy, dz, hm⟩ := jn_e hm
           refine Cw.join 100 108 [108] (fun l w => ∃ a5 a6, CW.w a6 = w ∧ Le [] dv a6 ∧ l = [vB a5] ∧ dy a5 = some r) ?_ ?_
           ·rintro _ _ σ ⟨a5, a6, rfl, aq, rfl, hm⟩
            rw [dz] at hm
            have cf := dx.n aq
            refine cn hm (fun hm => ?_) fun hm => ?_
            ·exact sr (Nb rfl (.ret (rt hm cf)))
            ·refine sk (sr (Ni rfl (sr (la ((((((cb.up L).up N).up O).up A).up G).up aq) (mi rfl (ca hm (fun _ => p12 (K := [9, 10]) (x0 := (Vm.Repo.mk J.2.Commits J.2.Heads)) (Repo.rd (K := [9, 10]) J.2.Commits J.2.Heads (((((((b8.up L).up N).up O).up A).up G).up aq).rd.sub (M := [9, 10]) rfl) (((((((b9.up L).up N).up O).up A).up G).up aq).rd.sub (M := [9, 10]) rfl))) fun fd fe hm d0 => ?_))))))
             have a7 := cf.n d0
             refine Ni rfl (ssr (mi rfl (Lw.lt rfl (nl (cn hm (fun hm => ?_) fun hm => ?_)))))
             ·exact sr (Nb rfl (.ret (rt hm a7)))
             ·refine sk (ssr (mi rfl (mi rfl (Lw.ne rfl (nl (cn hm (fun hm => ?_) fun hm => ?_))))))
              ·exact sr (Nb rfl (.ret (rt hm a7)))
              ·exact sk (sr (Nb rfl (.ret (rt hm a7))))
           ·refine rg (la dw (la (((((((b6.up E).up P).up L).up N).up O).up A).up G) ?_))
            have d1 := ah.up ((H.sub (M := [5, 6, 7, 8, 9, 10, 11, 18]) rfl).trans ((I.sub (M := [5, 6, 7, 8, 9, 10, 11, 18]) rfl).trans ((D.sub (M := [5, 6, 7, 8, 9, 10, 11, 18]) rfl).trans ((i.sub (M := [5, 6, 7, 8, 9, 10, 11, 18]) rfl).trans ((z.sub (M := [5, 6, 7, 8, 9, 10, 11, 18]) rfl).trans ((y.sub (M := [5, 6, 7, 8, 9, 10, 11, 18]) rfl).trans ((b.sub (M := [5, 6, 7, 8, 9, 10, 11, 18]) rfl).trans ((d.sub (M := [5, 6, 7, 8, 9, 10, 11, 18]) rfl).trans ((k.sub (M := [5, 6, 7, 8, 9, 10, 11, 18]) rfl).trans ((x.sub (M := [5, 6, 7, 8, 9, 10, 11, 18]) rfl).trans ((e.sub (M := [5, 6, 7, 8, 9, 10, 11, 18]) rfl).trans ((f.sub (M := [5, 6, 7, 8, 9, 10, 11, 18]) rfl).trans ((C.sub (M := [5, 6, 7, 8, 9, 10, 11, 18]) rfl).trans ((E.sub (M := [5, 6, 7, 8, 9, 10, 11, 18]) rfl).trans ((P.sub (M := [5, 6, 7, 8, 9, 10, 11, 18]) rfl).trans ((L.sub (M := [5, 6, 7, 8, 9, 10, 11, 18]) rfl).trans ((N.sub (M := [5, 6, 7, 8, 9, 10, 11, 18]) rfl).trans ((O.sub (M := [5, 6, 7, 8, 9, 10, 11, 18]) rfl).trans ((A.sub (M := [5, 6, 7, 8, 9, 10, 11, 18]) rfl).trans (G.sub (M := [5, 6, 7, 8, 9, 10, 11, 18]) rfl)))))))))))))))))))) rfl
            have d2 := ai.up ((H.sub (M := [5, 6, 7, 8, 9, 10, 11, 18]) rfl).trans ((I.sub (M := [5, 6, 7, 8, 9, 10, 11, 18]) rfl).trans ((D.sub (M := [5, 6, 7, 8, 9, 10, 11, 18]) rfl).trans ((i.sub (M := [5, 6, 7, 8, 9, 10, 11, 18]) rfl).trans ((z.sub (M := [5, 6, 7, 8, 9, 10, 11, 18]) rfl).trans ((y.sub (M := [5, 6, 7, 8, 9, 10, 11, 18]) rfl).trans ((b.sub (M := [5, 6, 7, 8, 9, 10, 11, 18]) rfl).trans ((d.sub (M := [5, 6, 7, 8, 9, 10, 11, 18]) rfl).trans ((k.sub (M := [5, 6, 7, 8, 9, 10, 11, 18]) rfl).trans ((x.sub (M := [5, 6, 7, 8, 9, 10, 11, 18]) rfl).trans ((e.sub (M := [5, 6, 7, 8, 9, 10, 11, 18]) rfl).trans ((f.sub (M := [5, 6, 7, 8, 9, 10, 11, 18]) rfl).trans ((C.sub (M := [5, 6, 7, 8, 9, 10, 11, 18]) rfl).trans ((E.sub (M := [5, 6, 7, 8, 9, 10, 11, 18]) rfl).trans ((P.sub (M := [5, 6, 7, 8, 9, 10, 11, 18]) rfl).trans ((L.sub (M := [5, 6, 7, 8, 9, 10, 11, 18]) rfl).trans ((N.sub (M := [5, 6, 7, 8, 9, 10, 11, 18]) rfl).trans ((O.sub (M := [5, 6, 7, 8, 9, 10, 11, 18]) rfl).trans ((A.sub (M := [5, 6, 7, 8, 9, 10, 11, 18]) rfl).trans (G.sub (M := [5, 6, 7, 8, 9, 10, 11, 18]) rfl)))))))))))))))))))) rfl
            refine ca hm (fun _ => p10 (K := [0, 3, 4, 16, 17]) (x0 := (Vm.Repo.mk F.1.Commits F.1.Heads)) ((Repo.rd (K := [16, 17]) F.1.Commits F.1.Heads (((cd.up A).up G).rd.sub (M := [16, 17]) rfl) (((ce.up A).up G).rd.sub (M := [16, 17]) rfl)).sub (M := [0, 3, 4, 16, 17]) rfl) ((Repo.rd (K := [0, 3, 4]) h.1.Commits h.1.Heads d1 d2).sub (M := [0, 3, 4, 16, 17]) rfl)) fun ff cg hm ch => Lw.r rfl (R.not rfl) (mb rfl (bs hm (fun W hm => ?_) fun W hm => ?_))
            ·exact psk 3 W rfl (Pb W rfl (nl ((ag) ⟨true, cg, rfl, ch, rfl, hm⟩)))
            ·exact wak 3 W (mi rfl (mi rfl (Lw.ne rfl (Pb W rfl (nl ((ag) ⟨((F.2 : Int) != (h.2 : Int)), cg, rfl, ch, rfl, hm⟩))))))
       ·refine rg (mi rfl (Lw.lt rfl (mb rfl (bs hm (fun X hm => ?_) fun X hm => ?_))))
        ·exact psk 4 X rfl (Pb X rfl (mb rfl (psk 3 rfl rfl (Pb rfl rfl (nl ((ag) ⟨true, b3, rfl, Le.refl _ _, rfl, hm⟩))))))
        ·refine wak 4 X (la a1 (la b6 ?_))
         have d3 := ah.up ((H.sub (M := [5, 6, 7, 8, 11]) rfl).trans ((I.sub (M := [5, 6, 7, 8, 11]) rfl).trans ((D.sub (M := [5, 6, 7, 8, 11]) rfl).trans ((i.sub (M := [5, 6, 7, 8, 11]) rfl).trans ((z.sub (M := [5, 6, 7, 8, 11]) rfl).trans ((y.sub (M := [5, 6, 7, 8, 11]) rfl).trans ((b.sub (M := [5, 6, 7, 8, 11]) rfl).trans ((d.sub (M := [5, 6, 7, 8, 11]) rfl).trans ((k.sub (M := [5, 6, 7, 8, 11]) rfl).trans ((x.sub (M := [5, 6, 7, 8, 11]) rfl).trans ((e.sub (M := [5, 6, 7, 8, 11]) rfl).trans ((f.sub (M := [5, 6, 7, 8, 11]) rfl).trans (C.sub (M := [5, 6, 7, 8, 11]) rfl))))))))))))) rfl
         have d4 := ai.up ((H.sub (M := [5, 6, 7, 8, 11]) rfl).trans ((I.sub (M := [5, 6, 7, 8, 11]) rfl).trans ((D.sub (M := [5, 6, 7, 8, 11]) rfl).trans ((i.sub (M := [5, 6, 7, 8, 11]) rfl).trans ((z.sub (M := [5, 6, 7, 8, 11]) rfl).trans ((y.sub (M := [5, 6, 7, 8, 11]) rfl).trans ((b.sub (M := [5, 6, 7, 8, 11]) rfl).trans ((d.sub (M := [5, 6, 7, 8, 11]) rfl).trans ((k.sub (M := [5, 6, 7, 8, 11]) rfl).trans ((x.sub (M := [5, 6, 7, 8, 11]) rfl).trans ((e.sub (M := [5, 6, 7, 8, 11]) rfl).trans ((f.sub (M := [5, 6, 7, 8, 11]) rfl).trans (C.sub (M := [5, 6, 7, 8, 11]) rfl))))))))))))) rfl
         refine ca hm (fun _ => p10 (K := [0, 3, 4, 9, 10]) (x0 := (Vm.Repo.mk a.1.Commits a.1.Heads)) ((Repo.rd (K := [9, 10]) a.1.Commits a.1.Heads (b4.rd.sub (M := [9, 10]) rfl) (b5.rd.sub (M := [9, 10]) rfl)).sub (M := [0, 3, 4, 9, 10]) rfl) ((Repo.rd (K := [0, 3, 4]) h.1.Commits h.1.Heads d3 d4).sub (M := [0, 3, 4, 9, 10]) rfl)) fun fg ci hm cj => Lw.r rfl (R.not rfl) (Pb X rfl (mb rfl (bs hm (fun Y hm => ?_) fun Y hm => ?_)))
         ·exact psk 3 Y rfl (Pb Y rfl (nl ((ag) ⟨true, ci, rfl, cj, rfl, hm⟩)))
         ·exact wak 3 Y (mi rfl (mi rfl (Lw.ne rfl (Pb Y rfl (nl ((ag) ⟨((a.2 : Int) != (h.2 : Int)), ci, rfl, cj, rfl, hm⟩))))))
    ·refine rg (la bn (la br ?_))
     have d5 := ah.up ((H.sub (M := [5, 8, 11]) rfl).trans ((I.sub (M := [5, 8, 11]) rfl).trans ((D.sub (M := [5, 8, 11]) rfl).trans ((i.sub (M := [5, 8, 11]) rfl).trans ((z.sub (M := [5, 8, 11]) rfl).trans ((y.sub (M := [5, 8, 11]) rfl).trans ((b.sub (M := [5, 8, 11]) rfl).trans (d.sub (M := [5, 8, 11]) rfl)))))))) rfl
     have d6 := ai.up ((H.sub (M := [5, 8, 11]) rfl).trans ((I.sub (M := [5, 8, 11]) rfl).trans ((D.sub (M := [5, 8, 11]) rfl).trans ((i.sub (M := [5, 8, 11]) rfl).trans ((z.sub (M := [5, 8, 11]) rfl).trans ((y.sub (M := [5, 8, 11]) rfl).trans ((b.sub (M := [5, 8, 11]) rfl).trans (d.sub (M := [5, 8, 11]) rfl)))))))) rfl
     refine ca hm (fun _ => p10 (K := [0, 3, 4, 9, 10]) (x0 := (Vm.Repo.mk a.1.Commits a.1.Heads)) ((Repo.rd (K := [9, 10]) a.1.Commits a.1.Heads (bp.rd.sub (M := [9, 10]) rfl) (bq.rd.sub (M := [9, 10]) rfl)).sub (M := [0, 3, 4, 9, 10]) rfl) ((Repo.rd (K := [0, 3, 4]) h.1.Commits h.1.Heads d5 d6).sub (M := [0, 3, 4, 9, 10]) rfl)) fun fh ck hm cl => Lw.r rfl (R.not rfl) (mb rfl (bs hm (fun Z hm => ?_) fun Z hm => ?_))
     ·exact psk 3 Z rfl (Pb Z rfl (nl ((ag) ⟨true, ck, rfl, cl, rfl, hm⟩)))
     ·exact wak 3 Z (mi rfl (mi rfl (Lw.ne rfl (Pb Z rfl (nl ((ag) ⟨((a.2 : Int) != (h.2 : Int)), ck, rfl, cl, rfl, hm⟩))))))
theorem p5 {x0 a b x1 x2 x3 r} (d : Rd W K [a, b] x0) (f : Gl 0 W K) (hm : Vm.laws_FnExactPickOf x0 x1 x2 x3 = some r) : Q1 5 [.agg [a, b].toArray, vS x1, vS x2, vI x3] W [] fun W' v => v = vB r :=
 (c5 (d.view _) (f.view _) hm).ad (fk 0) fun _ _ e => e
end Go.Sx
