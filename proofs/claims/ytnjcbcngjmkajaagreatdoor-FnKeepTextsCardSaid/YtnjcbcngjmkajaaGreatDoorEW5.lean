/- Walks: each function answers as its model, printed by a program of ours. Conditions: the arguments read as they are given. -/
import Derived.Test.YtnjcbcngjmkajaaGreatDoorETs
import Derived.Test.YtnjcbcngjmkajaaGreatDoorEM0
import Derived.Test.YtnjcbcngjmkajaaGreatDoorEW0
import Derived.Test.YtnjcbcngjmkajaaGreatDoorEW1
import Derived.Test.YtnjcbcngjmkajaaGreatDoorEW2
import Derived.Test.YtnjcbcngjmkajaaGreatDoorEW3
import Derived.Test.YtnjcbcngjmkajaaGreatDoorEW4
namespace Go.Sx
open Go Go.Proofs Go.Vm Rp
set_option linter.unusedVariables false
set_option linter.unusedSimpArgs false
variable {W W0 : CW} {K : List Nat}
theorem c124 {x0 B C x1 x2 x3 H x4 I r} (h0 : Rd W0 [0] [B, C] x0) (h3 : Rd W0 [0] [H] x3) (h4 : Rd W0 [0] [I] x4) (hm : Vm.zcd x0 x1 x2 x3 x4 = some r) : Q0 124 [.agg [B, C].toArray, vS x1, vS x2, H, I] W0 fun Wf v => ∃ ai aj, v = .tuple [.agg [ai, aj].toArray, vI r.2].toArray ∧ Rd Wf [0] [ai] r.1.Commits ∧ Rd Wf [0] [aj] r.1.Heads := by
 unfold Vm.zcd at hm
 obtain ⟨b5, b6, ak, e, h⟩ := Repo.split h0
 simp only [List.cons.injEq, and_true, true_and] at ak
 obtain ⟨rfl, rfl⟩ := ak
 refine zap.of Tryz.func124 rfl rfl rfl rfl (sr (bo 2 rfl fun g1 W1 l1 b1 => ?_))
 have a2 := l1.o
 refine al 3 [.slice none 0 0, .slice none 0 0] fun g3 W3 J b3 => ?_
 have L := a2.n J
 refine Ni rfl (sr (la (b1.up J) (ms rfl (ca hm (fun _ => p100 (Repo.rd (K := [0]) x0.Commits x0.Heads (e.ul L) (h.ul L))) fun x cc hm l10 => ?_))))
 have y := L.n l10
 have an := (b1.up J).up l10
 refine Ni rfl (sr (mv H rfl (fl an rfl (mi rfl ?_))))
 obtain ⟨cd, ao, hm⟩ := ob hm
 refine Lw.r rfl (R.ix (α := Commit) (e.ul y) ao rfl rfl rfl) (Lw.fa rfl ?_)
 obtain ⟨ce, c18, r19⟩ := (Commit.at2 ((e.ul y).at_ ao)).cell rfl
 refine Lw.r rfl (R.ld rfl rfl c18) (mv I rfl (cr hm (fun _ => p134 (k0 := 4) (k1 := 5) (h3.ul y) r19 (h4.ul y)) ?_))
 rintro D _ a5 hm N ⟨a, i, rfl, a6, a7⟩
 have ap := y.n N
 have O := an.up N
 have aq := (b3.up l10).up N
 refine mv (.tuple [a, i].toArray) rfl (Lw.r rfl (R.ext (vs := [a, i]) (v := a) rfl rfl) (Lw.r rfl (R.ext (vs := [a, i]) (v := i) rfl rfl) (Gv a rfl (Nv i rfl (ssr (mv i rfl (Lw.ln D.2 a7.rd rfl (Lw.gt rfl (nl (cn hm (fun hm => ?_) fun hm => ?_))))))))))
 ·refine sr (la O (sta aq (zaa e.oc (zaa h.oc zaw)) fun cf a8 a9 => ?_))
  have P := ap.t a8
  refine Ni rfl ?_
  cases hm
  exact Cw.ret (zeM rfl a9 rfl (Res.mk P ⟨B, C, rfl, (e.ul P), (h.ul P)⟩))
 ·refine sk (sr (la O (ms rfl (mi rfl (Lw.t rfl (T.bsS (α := Int) (xs := [x]) 6 [] (W := a5) [vI x] (Each.cons ((rdI _)) Each.nil) rfl) ?_)))))
  rintro Q _ ⟨cg, rfl, E, S⟩
  have U := ap.n E
  have V := a6.up E
  refine ms rfl (mv a rfl (Lw.r rfl (R.bd (zs := [.slice none 0 0, vS ([] : Str), .slice none 0 0]) (cs := [Q, vS x2, a]) [(0, Q), (1, vS x2), (2, a)] rfl rfl rfl (zaD S.oc rfl (zaD rfl rfl (zaD V.oc rfl zcU)))) (cr hm (fun _ => p131 (K := [0, 4, 6]) (x2 := (Vm.Commit.mk ([x] : List Int) x2 D.1)) ((Repo.rd (K := [0]) x0.Commits x0.Heads (e.ul U) (h.ul U)).sub (M := [0, 4, 6]) rfl) ((Commit.rd (K := [4, 6]) ([x] : List Int) x2 D.1 (S.rd.sub (M := [4, 6]) rfl) (V.rd.sub (M := [4, 6]) rfl)).sub (M := [0, 4, 6]) rfl)) ?_)))
  rintro k _ ch hm z ⟨X, Y, rfl, ba, bb⟩
  have F := ba.sub (M := [0, 4, 6]) rfl
  have G := bb.sub (M := [0, 4, 6]) rfl
  have bc := U.n z
  refine al 7 [.slice none 0 0, .slice none 0 0] fun ci cj b be => ?_
  have bg := bc.n b
  refine sta be (zaa F.oc (zaa G.oc zaw)) fun ck d ar => ?_
  have bh := bg.t d
  refine nl (ssr (la ar ?_))
  have bi := F.up ((b.sub (M := [7]) rfl).trans (d.sub (M := [7]) rfl)) rfl
  have bj := G.up ((b.sub (M := [7]) rfl).trans (d.sub (M := [7]) rfl)) rfl
  refine ca hm (fun _ => p23 (K := [0, 4, 6]) (Repo.rd (K := [0, 4, 6]) k.Commits k.Heads bi bj)) fun cl cm hm f => ?_
  have au := bh.n f
  have av := ((((aq.up E).up z).up b).up d).up f
  refine Lw.r rfl (R.not rfl) (nl (cn hm (fun hm => ?_) fun hm => ?_))
  ·refine sr (la (((((O.up E).up z).up b).up d).up f) (sta av (zaa e.oc (zaa h.oc zaw)) fun co bk bl => ?_))
   have Z := au.t bk
   refine Ni rfl ?_
   cases hm
   exact Cw.ret (zeM rfl bl rfl (Res.mk Z ⟨B, C, rfl, (e.ul Z), (h.ul Z)⟩))
  ·refine sk (sr (la (ar.up f) (sta av (zaa F.oc (zaa G.oc zaw)) fun cp A bm => ?_)))
   have bn := au.t A
   refine Ni rfl ?_
   have bp := F.up ((b.sub (M := [3, 7]) rfl).trans ((d.sub (M := [3, 7]) rfl).trans ((f.sub (M := [3, 7]) rfl).trans (A.sub (M := [3, 7]) rfl)))) rfl
   have bq := G.up ((b.sub (M := [3, 7]) rfl).trans ((d.sub (M := [3, 7]) rfl).trans ((f.sub (M := [3, 7]) rfl).trans (A.sub (M := [3, 7]) rfl)))) rfl
   obtain ⟨aa, br, ac, ae⟩ := zgW _ 4
   have bu : Rd aa [0, 6] [X] k.Commits := by rw [ae]; exact (bp.dye 4).sub (M := [0, 6]) rfl
   have bv : Rd aa [0, 6] [Y] k.Heads := by rw [ae]; exact (bq.dye 4).sub (M := [0, 6]) rfl
   have cq : Rd (α := List Vm.File) aa [0] [a] D.1 := by rw [ae]; exact ((((((V.up z).up b).up d).up f).up A).rd.dye 4).sub (M := [0]) rfl
   have bw := bn.t ac
   obtain ⟨af, bz, aw, ah⟩ := zgW _ 6
   have b0 : Rd af [0] [X] k.Commits := by rw [ah]; exact (bu.dye 6).sub (M := [0]) rfl
   have b2 : Rd af [0] [Y] k.Heads := by rw [ah]; exact (bv.dye 6).sub (M := [0]) rfl
   have ct : Rd (α := List Int) af [0] [Q] ([x] : List Int) := by rw [ah]; exact (((((((S.up z).up b).up d).up f).up A).up ac).rd.dye 6).sub (M := [0]) rfl
   have b4 := bw.t aw
   cases hm
   rw [← bz.trans (br)]
   exact Cw.ret (zeM rfl ((bm.up ac).up aw) rfl (Res.mk b4 ⟨X, Y, rfl, b0, b2⟩))
theorem p124 {x0 d f x1 x2 x3 h x4 i r} (k : Rd W K [d, f] x0) (x : Rd W K [h] x3) (y : Rd W K [i] x4) (hm : Vm.zcd x0 x1 x2 x3 x4 = some r) : Q1 124 [.agg [d, f].toArray, vS x1, vS x2, h, i] W [] fun W' v => ∃ a b, v = .tuple [.agg [a, b].toArray, vI r.2].toArray ∧ Rd W' (0 :: K) [a] r.1.Commits ∧ Rd W' (0 :: K) [b] r.1.Heads :=
 (c124 (k.view _) (x.view _) (y.view _) hm).ad (fk 0) fun _ _ ⟨a, b, e, z, A⟩ => ⟨a, b, e, z.back rfl, A.back rfl⟩
theorem c107 {x0 ah ai x1 x2 x3 r} (h0 : Rd W0 [0] [ah, ai] x0) (hm : Vm.zcP x0 x1 x2 x3 = some r) : Q0 107 [.agg [ah, ai].toArray, vS x1, vS x2, vI x3] W0 fun Wf v => ∃ aj ak, v = .tuple [.agg [aj, ak].toArray, vI r.2].toArray ∧ Rd Wf [0] [aj] r.1.Commits ∧ Rd Wf [0] [ak] r.1.Heads := by
 unfold Vm.zcP at hm
 obtain ⟨dc, dd, am, z, H⟩ := Repo.split h0
 simp only [List.cons.injEq, and_true, true_and] at am
 obtain ⟨rfl, rfl⟩ := am
 refine zap.of Tryz.func107 rfl rfl rfl rfl (sr (bo 2 rfl fun g1 W1 l1 b1 => ?_))
 have a2 := l1.o
 refine al 3 [.slice none 0 0, .slice none 0 0] fun g3 W3 Q b3 => ?_
 have S := a2.n Q
 refine Ni rfl (ssr (la (b1.up Q) (ca hm (fun _ => p23 (Repo.rd (K := [0]) x0.Commits x0.Heads (z.ul S) (H.ul S))) fun z8 bg hm l10 => ?_)))
 have A := S.n l10
 have I := (b1.up Q).up l10
 refine Lw.r rfl (R.not rfl) (nl (cn hm (fun hm => ?_) fun hm => ?_))
 ·refine sr (Lw.r rfl (R.bd (zs := [.slice none 0 0, .slice none 0 0]) (cs := [.slice none 0 0, .slice none 0 0]) [] rfl rfl rfl zcU) (sta (b3.up l10) (zaa rfl (zaa rfl zaw)) fun dj bh bi => ?_))
  have bj := A.t bh
  refine Ni rfl ?_
  cases hm
  exact Cw.ret (zeM rfl bi rfl (Res.mk bj ⟨.slice none 0 0, .slice none 0 0, rfl, (rdN (K := [0])), (rdN (K := [0]))⟩))
 ·refine sk (Cw.seq ?_)
  obtain ⟨bk, bl, hm⟩ := za1 hm
  refine Cw.join 15 32 [32] (fun l w => ∃ U V, CW.w V = w ∧ Le [] bg V ∧ l = [vB U] ∧ bk U = some r) ?_ ?_
  ·rintro _ _ σ ⟨U, V, rfl, J, rfl, hm⟩
   rw [bl] at hm
   have k := A.n J
   have ap := (b3.up l10).up J
   refine cn hm (fun hm => ?_) fun hm => ?_
   ·refine sr (la (I.up J) (cr hm (fun _ => p59 (k0 := 4) (k1 := 5) (Repo.rd (K := [0]) x0.Commits x0.Heads (z.ul k) (H.ul k))) ?_))
    rintro aq _ dk hm ar ⟨au, av, rfl, aw, ax⟩
    have bm := k.n ar
    refine sta (ap.up ar) (zaa aw.oc (zaa ax.oc zaw)) fun dl W bn => ?_
    have bp := bm.t W
    refine Ni rfl ?_
    obtain ⟨bq, br, X, bu⟩ := zgW _ 4
    have bv : Rd (α := List Vm.Commit) bq [0] [au] aq.Commits := by rw [bu]; exact ((aw.up W).rd.dye 4).sub (M := [0]) rfl
    have bw := bp.t X
    obtain ⟨bz, b0, ay, b2⟩ := zgW _ 5
    have b4 : Rd (α := List Vm.Head) bz [0] [av] aq.Heads := by rw [b2]; exact (((ax.up W).up X).rd.dye 5).sub (M := [0]) rfl
    have az := ay.s
    cases hm
    rw [← b0.trans (br)]
    exact Cw.ret (zeM rfl ((bn.up X).up ay) rfl (Res.mk (bw.trans az) ⟨au, av, rfl, (bv.ul az), b4⟩))
   ·refine sk (sr (la (I.up J) (cr hm (fun _ => p59 (k0 := 6) (k1 := 7) (Repo.rd (K := [0]) x0.Commits x0.Heads (z.ul k) (H.ul k))) ?_)))
    rintro a _ dm hm a0 ⟨Y, Z, rfl, a1, a3⟩
    have b5 := k.n a0
    refine al 8 [.slice none 0 0, .slice none 0 0] fun dn dp x b6 => ?_
    have b7 := b5.n x
    refine sta b6 (zaa (a1.up x).oc (zaa (a3.up x).oc zaw)) fun dq L b8 => ?_
    have b9 := b7.t L
    refine nl (Cw.seq (Cw.draw [] [(0, 1), (1, 0), (2, 0), (3, 1), (4, 0), (6, 0), (7, 1), (8, 0), (9, 0), (10, 0), (11, 1), (5, 2), (12, 2), (13, 0), (14, 0), (15, 3), (16, 0)] mixed (by kernel_rfl) fun dr B => ?_))
    have cb := b9.n B
    have y := ((a1.up x).up L).up B
    have aa := ((a3.up x).up L).up B
    have ac := b8.up B
    refine Mw.q rfl rfl (fun _ c => R.lda (cs := [Y, Z]) (ac.clcs rfl c) rfl rfl) (Ds rfl (Ds rfl (Mw.q rfl rfl (fun _ c => R.lda (cs := [Y, Z]) (ac.clcs rfl c) rfl rfl) (Di rfl (Dfl ac rfl rfl rfl (Di rfl ?_))))))
    obtain ⟨cc, ae, hm⟩ := ob hm
    refine Mw.p rfl rfl (fun _ => R.ix (α := Commit) y.rd ae rfl rfl rfl) (Df rfl ?_)
    obtain ⟨cd, c80, r81⟩ := (Commit.at2 (y.rd.at_ ae)).cell rfl
    refine Mw.q rfl rfl (fun _ c => R.ld rfl rfl (zam (Commit.at2 (y.rd.at_ ae)).1 rfl c80 c)) ?_
    obtain ⟨a5, ce, hm⟩ := ob hm
    refine Mw.t rfl rfl (T.call rfl (p125 (K := [6, 7])  (x0 := (Vm.Repo.mk a.Commits a.Heads)) (Repo.rd (K := [6, 7]) a.Commits a.Heads (y.rd.sub (M := [6, 7]) rfl) (aa.rd.sub (M := [6, 7]) rfl)) ce)) ?_
    rintro a6 _ ⟨ds, rfl, b, ⟨_, rfl, cf⟩⟩
    have a7 := cf.sub (M := [0, 6, 7]) rfl
    have cg := cb.n b
    refine m0 b fun ch => ?_
    have ci := r81.up (b.sub (M := []) rfl) rfl
    obtain ⟨d, cj, hm⟩ := ob hm
    refine Mw.t rfl rfl (T.call rfl (p124 (K := [0, 6, 7])  (x0 := (Vm.Repo.mk a.Commits a.Heads)) ((Repo.rd (K := [6, 7]) a.Commits a.Heads ((y.up b).rd.sub (M := [6, 7]) rfl) ((aa.up b).rd.sub (M := [6, 7]) rfl)).sub (M := [0, 6, 7]) rfl) a7 (ci.sub (M := [0, 6, 7]) rfl) cj)) ?_
    rintro _ _ ⟨dt, rfl, e, ⟨f, h, rfl, ck, cl⟩⟩
    have a8 := ck.sub (M := [0, 6, 7]) rfl
    have a9 := cl.sub (M := [0, 6, 7]) rfl
    have cm := cg.n e
    refine mc ch e fun du => Mw.p rfl rfl (fun _ => R.ext (vs := [.agg [f, h].toArray, vI d.2]) (v := .agg [f, h].toArray) rfl rfl) (Mw.p rfl rfl (fun _ => R.ext (vs := [.agg [f, h].toArray, vI d.2]) (v := vI d.2) rfl rfl) (Mw.lu rfl (T.sta (vs := [f, h]) ((((((ap.up a0).up x).up L).up B).up b).up e) rfl rfl (zaa a8.oc (zaa a9.oc zaw)) rfl rfl) ?_))
    rintro _ _ ⟨dv, rfl, i, co⟩
    have cp := cm.t i
    refine Hi rfl (Mw.nil ?_)
    have cq := r81.up ((b.sub (M := [3]) rfl).trans ((e.sub (M := [3]) rfl).trans (i.sub (M := [3]) rfl))) rfl
    have ct := a7.up ((e.sub (M := [3]) rfl).trans (i.sub (M := [3]) rfl)) rfl
    have cu := a8.up (i.sub (M := [3]) rfl) rfl
    have cv := a9.up (i.sub (M := [3]) rfl) rfl
    obtain ⟨C, cw, af, D⟩ := zgW _ 6
    have dw : Rd C [0] [cd] cc.Tree := by rw [D]; exact (cq.dye 6).sub (M := [0]) rfl
    have cx : Rd C [0, 7] [a6] a5 := by rw [D]; exact (ct.dye 6).sub (M := [0, 7]) rfl
    have cy : Rd C [0, 7] [f] d.1.Commits := by rw [D]; exact (cu.dye 6).sub (M := [0, 7]) rfl
    have cz : Rd C [0, 7] [h] d.1.Heads := by rw [D]; exact (cv.dye 6).sub (M := [0, 7]) rfl
    have dx : Rd (α := List Vm.Commit) C [0] [Y] a.Commits := by rw [D]; exact ((((y.up b).up e).up i).rd.dye 6).sub (M := [0]) rfl
    have c0 := cp.t af
    obtain ⟨N, c1, ba, O⟩ := zgW _ 7
    have dy : Rd N [0] [a6] a5 := by rw [O]; exact (cx.dye 7).sub (M := [0]) rfl
    have c2 : Rd N [0] [f] d.1.Commits := by rw [O]; exact (cy.dye 7).sub (M := [0]) rfl
    have c3 : Rd N [0] [h] d.1.Heads := by rw [O]; exact (cz.dye 7).sub (M := [0]) rfl
    have dz : Rd (α := List Vm.Head) N [0] [Z] a.Heads := by rw [O]; exact (((((aa.up b).up e).up i).up af).rd.dye 7).sub (M := [0]) rfl
    have c4 := c0.t ba
    cases hm
    rw [← c1.trans (cw)]
    exact Cw.ret (zeM rfl ((co.up af).up ba) rfl (Res.mk c4 ⟨f, h, rfl, c2, c3⟩))
  ·refine rg (la I (ms rfl (ca hm (fun _ => p100 (Repo.rd (K := [0]) x0.Commits x0.Heads (z.ul A) (H.ul A))) fun d0 c5 hm E => ?_)))
   have c6 := A.n E
   refine Lw.lt rfl (mb rfl (bs hm (fun F hm => ?_) fun F hm => ?_))
   ·exact psk 3 F rfl (Pb F rfl (mb rfl (psk 7 rfl rfl (Pb rfl rfl (nl ((ag) ⟨true, c5, rfl, E, rfl, hm⟩))))))
   ·refine wak 3 F (ms rfl (ca hm (fun _ => p43) fun d1 c7 hm P => ?_))
    have c8 := c6.n P
    refine Lw.r rfl (R.not rfl) (Pb F rfl (mb rfl (bs hm (fun G hm => ?_) fun G hm => ?_)))
    ·exact psk 7 G rfl (Pb G rfl (nl ((ag) ⟨true, c7, rfl, (E.j P).w, rfl, hm⟩)))
    ·exact wak 7 G (mi rfl (fl ((I.up E).up P) rfl (Lw.ln x0.Commits (z.ul c8) rfl (Lw.sub rfl (ca hm (fun _ => p42) fun c9 da hm db => Lw.r rfl (R.not rfl) (Pb G rfl (nl ((ag) ⟨(!c9), da, rfl, ((E.j P).j db).w, rfl, hm⟩))))))))
theorem p107 {x0 d f x1 x2 x3 r} (h : Rd W K [d, f] x0) (hm : Vm.zcP x0 x1 x2 x3 = some r) : Q1 107 [.agg [d, f].toArray, vS x1, vS x2, vI x3] W [] fun W' v => ∃ a b, v = .tuple [.agg [a, b].toArray, vI r.2].toArray ∧ Rd W' (0 :: K) [a] r.1.Commits ∧ Rd W' (0 :: K) [b] r.1.Heads :=
 (c107 (h.view _) hm).ad (fk 0) fun _ _ ⟨a, b, e, i, k⟩ => ⟨a, b, e, i.back rfl, k.back rfl⟩
theorem c108 {x0 ah ai x1 x2 x3 r} (h0 : Rd W0 [0] [ah, ai] x0) (hm : Vm.zbK x0 x1 x2 x3 = some r) : Q0 108 [.agg [ah, ai].toArray, vS x1, vS x2, vI x3] W0 fun Wf v => ∃ aj ak, v = .tuple [.agg [aj, ak].toArray, vI r.2].toArray ∧ Rd Wf [0] [aj] r.1.Commits ∧ Rd Wf [0] [ak] r.1.Heads := by
 unfold Vm.zbK at hm
 obtain ⟨dc, dd, am, z, H⟩ := Repo.split h0
 simp only [List.cons.injEq, and_true, true_and] at am
 obtain ⟨rfl, rfl⟩ := am
 refine zap.of Tryz.func108 rfl rfl rfl rfl (sr (bo 2 rfl fun g1 W1 l1 b1 => ?_))
 have a2 := l1.o
 refine al 3 [.slice none 0 0, .slice none 0 0] fun g3 W3 Q b3 => ?_
 have S := a2.n Q
 refine Ni rfl (ssr (la (b1.up Q) (ca hm (fun _ => p23 (Repo.rd (K := [0]) x0.Commits x0.Heads (z.ul S) (H.ul S))) fun z8 bg hm l10 => ?_)))
 have A := S.n l10
 have I := (b1.up Q).up l10
 refine Lw.r rfl (R.not rfl) (nl (cn hm (fun hm => ?_) fun hm => ?_))
 ·refine sr (Lw.r rfl (R.bd (zs := [.slice none 0 0, .slice none 0 0]) (cs := [.slice none 0 0, .slice none 0 0]) [] rfl rfl rfl zcU) (sta (b3.up l10) (zaa rfl (zaa rfl zaw)) fun dj bh bi => ?_))
  have bj := A.t bh
  refine Ni rfl ?_
  cases hm
  exact Cw.ret (zeM rfl bi rfl (Res.mk bj ⟨.slice none 0 0, .slice none 0 0, rfl, (rdN (K := [0])), (rdN (K := [0]))⟩))
 ·refine sk (Cw.seq ?_)
  obtain ⟨bk, bl, hm⟩ := za1 hm
  refine Cw.join 15 32 [32] (fun l w => ∃ U V, CW.w V = w ∧ Le [] bg V ∧ l = [vB U] ∧ bk U = some r) ?_ ?_
  ·rintro _ _ σ ⟨U, V, rfl, J, rfl, hm⟩
   rw [bl] at hm
   have k := A.n J
   have ap := (b3.up l10).up J
   refine cn hm (fun hm => ?_) fun hm => ?_
   ·refine sr (la (I.up J) (cr hm (fun _ => p59 (k0 := 4) (k1 := 5) (Repo.rd (K := [0]) x0.Commits x0.Heads (z.ul k) (H.ul k))) ?_))
    rintro aq _ dk hm ar ⟨au, av, rfl, aw, ax⟩
    have bm := k.n ar
    refine sta (ap.up ar) (zaa aw.oc (zaa ax.oc zaw)) fun dl W bn => ?_
    have bp := bm.t W
    refine Ni rfl ?_
    obtain ⟨bq, br, X, bu⟩ := zgW _ 4
    have bv : Rd (α := List Vm.Commit) bq [0] [au] aq.Commits := by rw [bu]; exact ((aw.up W).rd.dye 4).sub (M := [0]) rfl
    have bw := bp.t X
    obtain ⟨bz, b0, ay, b2⟩ := zgW _ 5
    have b4 : Rd (α := List Vm.Head) bz [0] [av] aq.Heads := by rw [b2]; exact (((ax.up W).up X).rd.dye 5).sub (M := [0]) rfl
    have az := ay.s
    cases hm
    rw [← b0.trans (br)]
    exact Cw.ret (zeM rfl ((bn.up X).up ay) rfl (Res.mk (bw.trans az) ⟨au, av, rfl, (bv.ul az), b4⟩))
   ·refine sk (sr (la (I.up J) (cr hm (fun _ => p59 (k0 := 6) (k1 := 7) (Repo.rd (K := [0]) x0.Commits x0.Heads (z.ul k) (H.ul k))) ?_)))
    rintro a _ dm hm a0 ⟨Y, Z, rfl, a1, a3⟩
    have b5 := k.n a0
    refine al 8 [.slice none 0 0, .slice none 0 0] fun dn dp x b6 => ?_
    have b7 := b5.n x
    refine sta b6 (zaa (a1.up x).oc (zaa (a3.up x).oc zaw)) fun dq L b8 => ?_
    have b9 := b7.t L
    refine nl (Cw.seq (Cw.draw [] [(0, 1), (1, 0), (2, 0), (3, 0), (4, 1), (5, 0), (6, 0), (7, 0), (8, 1), (9, 1), (10, 0), (11, 2), (12, 2), (13, 0), (14, 0), (15, 3), (16, 0)] mixed (by kernel_rfl) fun dr B => ?_))
    have cb := b9.n B
    have y := ((a1.up x).up L).up B
    have aa := ((a3.up x).up L).up B
    have ac := b8.up B
    refine Mw.q rfl rfl (fun _ c => R.lda (cs := [Y, Z]) (ac.clcs rfl c) rfl rfl) (Ds rfl (Ds rfl (Dfl ac rfl rfl rfl (Di rfl ?_))))
    obtain ⟨cc, ae, hm⟩ := ob hm
    refine Mw.p rfl rfl (fun _ => R.ix (α := Commit) y.rd ae rfl rfl rfl) (Df rfl ?_)
    obtain ⟨cd, c80, r81⟩ := (Commit.at2 (y.rd.at_ ae)).cell rfl
    refine Mw.q rfl rfl (fun _ c => R.ld rfl rfl (zam (Commit.at2 (y.rd.at_ ae)).1 rfl c80 c)) (Mw.q rfl rfl (fun _ c => R.lda (cs := [Y, Z]) (ac.clcs rfl c) rfl rfl) (Di rfl ?_))
    obtain ⟨a5, ce, hm⟩ := ob hm
    refine Mw.t rfl rfl (T.call rfl (p125 (K := [6, 7])  (x0 := (Vm.Repo.mk a.Commits a.Heads)) (Repo.rd (K := [6, 7]) a.Commits a.Heads (y.rd.sub (M := [6, 7]) rfl) (aa.rd.sub (M := [6, 7]) rfl)) ce)) ?_
    rintro a6 _ ⟨ds, rfl, b, ⟨_, rfl, cf⟩⟩
    have a7 := cf.sub (M := [0, 6, 7]) rfl
    have cg := cb.n b
    refine m0 b fun ch => ?_
    have ci := r81.up (b.sub (M := []) rfl) rfl
    obtain ⟨d, cj, hm⟩ := ob hm
    refine Mw.t rfl rfl (T.call rfl (p124 (K := [0, 6, 7])  (x0 := (Vm.Repo.mk a.Commits a.Heads)) ((Repo.rd (K := [6, 7]) a.Commits a.Heads ((y.up b).rd.sub (M := [6, 7]) rfl) ((aa.up b).rd.sub (M := [6, 7]) rfl)).sub (M := [0, 6, 7]) rfl) (ci.sub (M := [0, 6, 7]) rfl) a7 cj)) ?_
    rintro _ _ ⟨dt, rfl, e, ⟨f, h, rfl, ck, cl⟩⟩
    have a8 := ck.sub (M := [0, 6, 7]) rfl
    have a9 := cl.sub (M := [0, 6, 7]) rfl
    have cm := cg.n e
    refine mc ch e fun du => Mw.p rfl rfl (fun _ => R.ext (vs := [.agg [f, h].toArray, vI d.2]) (v := .agg [f, h].toArray) rfl rfl) (Mw.p rfl rfl (fun _ => R.ext (vs := [.agg [f, h].toArray, vI d.2]) (v := vI d.2) rfl rfl) (Mw.lu rfl (T.sta (vs := [f, h]) ((((((ap.up a0).up x).up L).up B).up b).up e) rfl rfl (zaa a8.oc (zaa a9.oc zaw)) rfl rfl) ?_))
    rintro _ _ ⟨dv, rfl, i, co⟩
    have cp := cm.t i
    refine Hi rfl (Mw.nil ?_)
    have cq := r81.up ((b.sub (M := [3]) rfl).trans ((e.sub (M := [3]) rfl).trans (i.sub (M := [3]) rfl))) rfl
    have ct := a7.up ((e.sub (M := [3]) rfl).trans (i.sub (M := [3]) rfl)) rfl
    have cu := a8.up (i.sub (M := [3]) rfl) rfl
    have cv := a9.up (i.sub (M := [3]) rfl) rfl
    obtain ⟨C, cw, af, D⟩ := zgW _ 6
    have dw : Rd C [0] [cd] cc.Tree := by rw [D]; exact (cq.dye 6).sub (M := [0]) rfl
    have cx : Rd C [0, 7] [a6] a5 := by rw [D]; exact (ct.dye 6).sub (M := [0, 7]) rfl
    have cy : Rd C [0, 7] [f] d.1.Commits := by rw [D]; exact (cu.dye 6).sub (M := [0, 7]) rfl
    have cz : Rd C [0, 7] [h] d.1.Heads := by rw [D]; exact (cv.dye 6).sub (M := [0, 7]) rfl
    have dx : Rd (α := List Vm.Commit) C [0] [Y] a.Commits := by rw [D]; exact ((((y.up b).up e).up i).rd.dye 6).sub (M := [0]) rfl
    have c0 := cp.t af
    obtain ⟨N, c1, ba, O⟩ := zgW _ 7
    have dy : Rd N [0] [a6] a5 := by rw [O]; exact (cx.dye 7).sub (M := [0]) rfl
    have c2 : Rd N [0] [f] d.1.Commits := by rw [O]; exact (cy.dye 7).sub (M := [0]) rfl
    have c3 : Rd N [0] [h] d.1.Heads := by rw [O]; exact (cz.dye 7).sub (M := [0]) rfl
    have dz : Rd (α := List Vm.Head) N [0] [Z] a.Heads := by rw [O]; exact (((((aa.up b).up e).up i).up af).rd.dye 7).sub (M := [0]) rfl
    have c4 := c0.t ba
    cases hm
    rw [← c1.trans (cw)]
    exact Cw.ret (zeM rfl ((co.up af).up ba) rfl (Res.mk c4 ⟨f, h, rfl, c2, c3⟩))
  ·refine rg (la I (ms rfl (ca hm (fun _ => p100 (Repo.rd (K := [0]) x0.Commits x0.Heads (z.ul A) (H.ul A))) fun d0 c5 hm E => ?_)))
   have c6 := A.n E
   refine Lw.lt rfl (mb rfl (bs hm (fun F hm => ?_) fun F hm => ?_))
   ·exact psk 3 F rfl (Pb F rfl (mb rfl (psk 7 rfl rfl (Pb rfl rfl (nl ((ag) ⟨true, c5, rfl, E, rfl, hm⟩))))))
   ·refine wak 3 F (ms rfl (ca hm (fun _ => p43) fun d1 c7 hm P => ?_))
    have c8 := c6.n P
    refine Lw.r rfl (R.not rfl) (Pb F rfl (mb rfl (bs hm (fun G hm => ?_) fun G hm => ?_)))
    ·exact psk 7 G rfl (Pb G rfl (nl ((ag) ⟨true, c7, rfl, (E.j P).w, rfl, hm⟩)))
    ·exact wak 7 G (mi rfl (fl ((I.up E).up P) rfl (Lw.ln x0.Commits (z.ul c8) rfl (Lw.sub rfl (ca hm (fun _ => p42) fun c9 da hm db => Lw.r rfl (R.not rfl) (Pb G rfl (nl ((ag) ⟨(!c9), da, rfl, ((E.j P).j db).w, rfl, hm⟩))))))))
theorem p108 {x0 d f x1 x2 x3 r} (h : Rd W K [d, f] x0) (hm : Vm.zbK x0 x1 x2 x3 = some r) : Q1 108 [.agg [d, f].toArray, vS x1, vS x2, vI x3] W [] fun W' v => ∃ a b, v = .tuple [.agg [a, b].toArray, vI r.2].toArray ∧ Rd W' (0 :: K) [a] r.1.Commits ∧ Rd W' (0 :: K) [b] r.1.Heads :=
 (c108 (h.view _) hm).ad (fk 0) fun _ _ ⟨a, b, e, i, k⟩ => ⟨a, b, e, i.back rfl, k.back rfl⟩
theorem c79 {x0 C D x1 X r} (h0 : Rd W0 [0] [C, D] x0) (h1 : Rd W0 [0] [vI x1.Kind, vS x1.Branch, vS x1.Who, vS x1.Path, vS x1.To, vI x1.At, X] x1) (hm : Vm.zfa x0 x1 = some r) : Q0 79 [.agg [C, D].toArray, .agg [vI x1.Kind, vS x1.Branch, vS x1.Who, vS x1.Path, vS x1.To, vI x1.At, X].toArray] W0 fun Wf v => ∃ b9 cb, v = .tuple [.agg [b9, cb].toArray, vI r.2].toArray ∧ Rd Wf [0] [b9] r.1.Commits ∧ Rd Wf [0] [cb] r.1.Heads := by
 unfold Vm.zfa at hm
 obtain ⟨fr, fs, cc, d, e⟩ := Repo.split h0
 simp only [List.cons.injEq, and_true, true_and] at cc
 obtain ⟨rfl, rfl⟩ := cc
 obtain ⟨ft, cd, E⟩ := Op.split h1
 simp only [List.cons.injEq, and_true, true_and] at cd
 obtain rfl := cd
 refine zap.of Tryz.func79 rfl rfl rfl rfl (sr (bo 2 rfl fun g1 W1 l1 b1 => ?_))
 have a2 := l1.o
 refine bo 3 rfl fun g3 W3 l3 b3 => ?_
 have a4 := a2.n l3
 refine al 4 [.slice none 0 0, .slice none 0 0] fun g6 W6 Y b6 => ?_
 have a7 := a4.n Y
 have b8 := (b1.up l3).up Y
 refine Ni rfl (sr (la b8 (fl (b3.up Y) rfl (ca hm (fun _ => p100 (Repo.rd (K := [0]) x0.Commits x0.Heads (d.ul a7) (e.ul a7))) fun f0 f1 hm Z => ?_))))
 have dk := a7.n Z
 refine Ni rfl (sr (Lw.t rfl (T.lit0 (α := File) 5 []) ?_))
 rintro a3 _ ⟨f2, rfl, aa, dl⟩
 have dm := dk.n aa
 refine Nv a3 rfl ?_
 obtain ⟨ac, dn, ae, dp⟩ := zgW _ 5
 rw [← dn]
 have dq : Rd (α := List Vm.File) ac [0] [a3] ([] : List File) := by rw [dp]; exact (dl.rd.dye 5).sub (M := [0]) rfl
 have a5 := dm.t ae
 have ch := ((b8.up Z).up aa).up ae
 obtain ⟨dr, ds, hm⟩ := za1 hm
 refine Cw.join 21 28 [7] (fun l w => ∃ a6 B af, CW.w af = w ∧ Le [] ac af ∧ l = [B] ∧ Rd af [0] [B] a6 ∧ dr a6 = some r) ?_ ?_
 ·rintro _ _ σ ⟨a6, B, af, rfl, ah, rfl, r32, hm⟩
  rw [ds] at hm
  have b := a5.n ah
  have f := ch.up ah
  have a := ((((b3.up Y).up Z).up aa).up ae).up ah
  have x := (((b6.up Z).up aa).up ae).up ah
  refine ssr (fl a rfl (nl (Cw.block (sr (Lw.eq rfl (Nb rfl (cn hm (fun hm => ?_) fun hm => ?_)))))))
  ·refine sr (mv B rfl (fl a rfl (fl a rfl (Lw.r rfl (R.bd (zs := [vS ([] : Str), .slice none 0 0]) (cs := [vS x1.Path, X]) [(0, vS x1.Path), (1, X)] rfl rfl rfl (zaD rfl rfl (zaD E.oc rfl zcU))) (cr hm (fun _ => p101 (k0 := 6) (x1 := (Vm.File.mk x1.Path x1.Text)) r32 (File.rd (K := [0]) x1.Path x1.Text (E.ul b))) ?_)))))
   rintro y _ ci hm ai ⟨h, rfl, dt⟩
   have cj : Ow (α := List (Sh Vm.File)) ci 6 [0] [h] y.1 := dt.sub rfl
   have aj := b.n ai
   refine mv (.tuple [h, vB y.2].toArray) rfl (Lw.r rfl (R.ext (vs := [h, vB y.2]) (v := h) rfl rfl) (Lw.r rfl (R.ext (vs := [h, vB y.2]) (v := vB y.2) rfl rfl) (Gv h rfl (Nb rfl (sr (la (f.up ai) (la (a.up ai) (mv h rfl (mb rfl ?_)))))))))
   have du : Rd (α := List Vm.File) ci [6, 0] [h] y.1 := Ow.rdSh cj
   refine cr hm (fun _ => p102 (K := [0, 6]) ((Repo.rd (K := [0]) x0.Commits x0.Heads (d.ul aj) (e.ul aj)).sub (M := [0, 6]) rfl) ((Op.rd (K := [0]) x1.Kind x1.Branch x1.Who x1.Path x1.To x1.At x1.Text (E.ul aj)).sub (M := [0, 6]) rfl) (du.sub (M := [0, 6]) rfl)) ?_
   rintro F _ f3 hm a8 ⟨G, H, rfl, dv, dw⟩
   have ck := dv.sub (M := [0, 6]) rfl
   have cl := dw.sub (M := [0, 6]) rfl
   have dx := aj.n a8
   refine Lw.r rfl (R.ext (vs := [.agg [G, H].toArray, vI F.2]) (v := .agg [G, H].toArray) rfl rfl) (Lw.r rfl (R.ext (vs := [.agg [G, H].toArray, vI F.2]) (v := vI F.2) rfl rfl) (sta ((x.up ai).up a8) (zaa ck.oc (zaa cl.oc zaw)) fun f4 ak dy => ?_))
   have dz := dx.t ak
   refine Ni rfl ?_
   have d0 := ck.up (ak.sub (M := [4]) rfl) rfl
   have d1 := cl.up (ak.sub (M := [4]) rfl) rfl
   obtain ⟨a9, d2, cm, ba⟩ := zgW _ 6
   have d3 : Rd a9 [0] [G] F.1.Commits := by rw [ba]; exact (d0.dye 6).sub (M := [0]) rfl
   have d4 : Rd a9 [0] [H] F.1.Heads := by rw [ba]; exact (d1.dye 6).sub (M := [0]) rfl
   have f5 : Rd (α := List Vm.File) a9 [0] [h] y.1 := by rw [ba]; exact (((cj.up a8).up ak).rd.dye 6).sub (M := [0]) rfl
   have d5 := dz.t cm
   cases hm
   rw [← d2]
   exact Cw.ret (zeM rfl (dy.up cm) rfl (Res.mk d5 ⟨G, H, rfl, d3, d4⟩))
  ·refine sr (Lw.eq rfl (Nb rfl (cn hm (fun hm => ?_) fun hm => ?_)))
   ·refine sr (mv B rfl (fl a rfl (cr hm (fun _ => p103 (k0 := 7) r32) ?_)))
    rintro z _ co hm am ⟨i, rfl, d6⟩
    have cp : Ow (α := List (Sh Vm.File)) co 7 [0] [i] z.1 := d6.sub rfl
    have an := b.n am
    refine mv (.tuple [i, vB z.2].toArray) rfl (Lw.r rfl (R.ext (vs := [i, vB z.2]) (v := i) rfl rfl) (Lw.r rfl (R.ext (vs := [i, vB z.2]) (v := vB z.2) rfl rfl) (Gv i rfl (Nb rfl (sr (la (f.up am) (la (a.up am) (mv i rfl (mb rfl ?_)))))))))
    have d7 : Rd (α := List Vm.File) co [7, 0] [i] z.1 := Ow.rdSh cp
    refine cr hm (fun _ => p102 (K := [0, 7]) ((Repo.rd (K := [0]) x0.Commits x0.Heads (d.ul an) (e.ul an)).sub (M := [0, 7]) rfl) ((Op.rd (K := [0]) x1.Kind x1.Branch x1.Who x1.Path x1.To x1.At x1.Text (E.ul an)).sub (M := [0, 7]) rfl) (d7.sub (M := [0, 7]) rfl)) ?_
    rintro I _ f6 hm bb ⟨J, L, rfl, d8, d9⟩
    have cq := d8.sub (M := [0, 7]) rfl
    have ct := d9.sub (M := [0, 7]) rfl
    have ea := an.n bb
    refine Lw.r rfl (R.ext (vs := [.agg [J, L].toArray, vI I.2]) (v := .agg [J, L].toArray) rfl rfl) (Lw.r rfl (R.ext (vs := [.agg [J, L].toArray, vI I.2]) (v := vI I.2) rfl rfl) (sta ((x.up am).up bb) (zaa cq.oc (zaa ct.oc zaw)) fun f7 ao eb => ?_))
    have ec := ea.t ao
    refine Ni rfl ?_
    have ed := cq.up (ao.sub (M := [4]) rfl) rfl
    have ee := ct.up (ao.sub (M := [4]) rfl) rfl
    obtain ⟨bc, ef, cu, be⟩ := zgW _ 7
    have eg : Rd bc [0] [J] I.1.Commits := by rw [be]; exact (ed.dye 7).sub (M := [0]) rfl
    have eh : Rd bc [0] [L] I.1.Heads := by rw [be]; exact (ee.dye 7).sub (M := [0]) rfl
    have f8 : Rd (α := List Vm.File) bc [0] [i] z.1 := by rw [be]; exact (((cp.up bb).up ao).rd.dye 7).sub (M := [0]) rfl
    have ei := ec.t cu
    cases hm
    rw [← ef]
    exact Cw.ret (zeM rfl (eb.up cu) rfl (Res.mk ei ⟨J, L, rfl, eg, eh⟩))
   ·refine sr (Lw.eq rfl (Nb rfl (cn hm (fun hm => ?_) fun hm => ?_)))
    ·refine sr (mv B rfl (fl a rfl (fl a rfl (cr hm (fun _ => p104 (k0 := 8) r32) ?_))))
     rintro A _ cv hm ap ⟨k, rfl, ej⟩
     have cw : Ow (α := List (Sh Vm.File)) cv 8 [0] [k] A.1 := ej.sub rfl
     have aq := b.n ap
     refine mv (.tuple [k, vB A.2].toArray) rfl (Lw.r rfl (R.ext (vs := [k, vB A.2]) (v := k) rfl rfl) (Lw.r rfl (R.ext (vs := [k, vB A.2]) (v := vB A.2) rfl rfl) (Gv k rfl (Nb rfl (sr (la (f.up ap) (la (a.up ap) (mv k rfl (mb rfl ?_)))))))))
     have ek : Rd (α := List Vm.File) cv [8, 0] [k] A.1 := Ow.rdSh cw
     refine cr hm (fun _ => p102 (K := [0, 8]) ((Repo.rd (K := [0]) x0.Commits x0.Heads (d.ul aq) (e.ul aq)).sub (M := [0, 8]) rfl) ((Op.rd (K := [0]) x1.Kind x1.Branch x1.Who x1.Path x1.To x1.At x1.Text (E.ul aq)).sub (M := [0, 8]) rfl) (ek.sub (M := [0, 8]) rfl)) ?_
     rintro N _ f9 hm bg ⟨O, P, rfl, el, em⟩
     have cx := el.sub (M := [0, 8]) rfl
     have cy := em.sub (M := [0, 8]) rfl
     have en := aq.n bg
     refine Lw.r rfl (R.ext (vs := [.agg [O, P].toArray, vI N.2]) (v := .agg [O, P].toArray) rfl rfl) (Lw.r rfl (R.ext (vs := [.agg [O, P].toArray, vI N.2]) (v := vI N.2) rfl rfl) (sta ((x.up ap).up bg) (zaa cx.oc (zaa cy.oc zaw)) fun ga ar eo => ?_))
     have ep := en.t ar
     refine Ni rfl ?_
     have er := cx.up (ar.sub (M := [4]) rfl) rfl
     have es := cy.up (ar.sub (M := [4]) rfl) rfl
     obtain ⟨bh, et, cz, bi⟩ := zgW _ 8
     have eu : Rd bh [0] [O] N.1.Commits := by rw [bi]; exact (er.dye 8).sub (M := [0]) rfl
     have ew : Rd bh [0] [P] N.1.Heads := by rw [bi]; exact (es.dye 8).sub (M := [0]) rfl
     have gb : Rd (α := List Vm.File) bh [0] [k] A.1 := by rw [bi]; exact (((cw.up bg).up ar).rd.dye 8).sub (M := [0]) rfl
     have ex := ep.t cz
     cases hm
     rw [← et]
     exact Cw.ret (zeM rfl (eo.up cz) rfl (Res.mk ex ⟨O, P, rfl, eu, ew⟩))
    ·refine sr (Lw.eq rfl (Nb rfl (cn hm (fun hm => ?_) fun hm => ?_)))
     ·refine sr (la f (fl a rfl (mi rfl (cr hm (fun _ => p105 (Repo.rd (K := [0]) x0.Commits x0.Heads (d.ul b) (e.ul b))) ?_))))
      rintro au _ gc hm bj ⟨Q, S, rfl, ey, ez⟩
      have bk := ey.sub (M := [0]) rfl
      have bl := ez.sub (M := [0]) rfl
      have c0 := b.n bj
      refine mv (.tuple [.agg [Q, S].toArray, vB au.2].toArray) rfl (Lw.r rfl (R.ext (vs := [.agg [Q, S].toArray, vB au.2]) (v := .agg [Q, S].toArray) rfl rfl) (Lw.r rfl (R.ext (vs := [.agg [Q, S].toArray, vB au.2]) (v := vB au.2) rfl rfl) (al 9 [.slice none 0 0, .slice none 0 0] fun gd gf bm e0 => ?_)))
      have av := bm.o
      refine sta e0 (zaa bk.oc (zaa bl.oc zaw)) fun gg bn e1 => ?_
      have aw := bn.s
      have c1 := ((x.up bj).up bm).up bn
      refine Nb rfl (ssr (mb rfl (Lw.r rfl (R.not rfl) (nl (cn hm (fun hm => ?_) fun hm => ?_)))))
      ·refine sr (la (((f.up bj).up bm).up bn) (sta c1 (zaa d.oc (zaa e.oc zaw)) fun gh e2 e3 => ?_))
       have bp := ((c0.trans av).trans aw).t e2
       refine Ni rfl ?_
       cases hm
       exact Cw.ret (zeM rfl e3 rfl (Res.mk bp ⟨C, D, rfl, (d.ul bp), (e.ul bp)⟩))
      ·refine sk (sr (la e1 (sta c1 (zaa bk.oc (zaa bl.oc zaw)) fun gj e4 e5 => ?_)))
       have bq := e4.s
       refine Ni rfl ?_
       cases hm
       exact Cw.ret (zeM rfl e5 rfl (Res.mk (((c0.trans av).trans aw).trans bq) ⟨Q, S, rfl, (bk.ul ((av.trans aw).trans bq)), (bl.ul ((av.trans aw).trans bq))⟩))
     ·refine sr (Lw.eq rfl (Nb rfl (cn hm (fun hm => ?_) fun hm => ?_)))
      ·refine Cw.seq (Cw.draw [] [(0, 1), (1, 0), (2, 1), (3, 0), (4, 1), (5, 1), (6, 0), (7, 1), (8, 2), (9, 3), (10, 0), (11, 0), (12, 3), (13, 0)] mixed (by kernel_rfl) fun gk U => ?_)
       have br := b.n U
       have bu := a.up U
       refine Mw.q rfl rfl (fun _ c => R.lda (cs := [C, D]) ((f.up U).clcs rfl c) rfl rfl) (Dfl bu rfl rfl rfl (Dfl bu rfl rfl rfl (Mw.q rfl rfl (fun _ c => R.lda (cs := [C, D]) ((f.up U).clcs rfl c) rfl rfl) (Dfl bu rfl rfl rfl ?_))))
       obtain ⟨gm, e6, hm⟩ := ob hm
       refine Mw.t rfl rfl (T.call rfl (p100  (Repo.rd (K := [0]) x0.Commits x0.Heads (d.ul br) (e.ul br)) e6)) ?_
       rintro _ _ ⟨gn, rfl, bv, rfl⟩
       have bw := br.n bv
       refine m0 bv fun go => ?_
       obtain ⟨bz, e7, hm⟩ := ob hm
       refine Mw.l rfl rfl (T.call rfl (p106  (Repo.rd (K := [0]) x0.Commits x0.Heads (d.ul bw) (e.ul bw)) e7)) ?_
       rintro _ _ ⟨gr, rfl, c2, ⟨V, W, rfl, e8, e9⟩⟩
       have c3 := e8.sub (M := [0]) rfl
       have c4 := e9.sub (M := [0]) rfl
       have fb := bw.n c2
       refine Mw.p rfl rfl (fun _ => R.ext (vs := [.agg [V, W].toArray, vI bz.2]) (v := .agg [V, W].toArray) rfl rfl) (Mw.p rfl rfl (fun _ => R.ext (vs := [.agg [V, W].toArray, vI bz.2]) (v := vI bz.2) rfl rfl) (Mw.lu rfl (T.sta (vs := [V, W]) (((x.up U).up bv).up c2) rfl rfl (zaa c3.oc (zaa c4.oc zaw)) rfl rfl) ?_))
       rintro _ _ ⟨gs, rfl, fc, fd⟩
       have b0 := fc.s
       refine Hi rfl (Mw.nil ?_)
       cases hm
       exact Cw.ret (zeM rfl fd rfl (Res.mk (fb.trans b0) ⟨V, W, rfl, (c3.ul b0), (c4.ul b0)⟩))
      ·refine sr (Lw.eq rfl (Nb rfl (cn hm (fun hm => ?_) fun hm => ?_)))
       ·refine sr (la f (fl a rfl (fl a rfl (fl a rfl (cr hm (fun _ => p107 (Repo.rd (K := [0]) x0.Commits x0.Heads (d.ul b) (e.ul b))) ?_)))))
        rintro b2 _ gu hm c5 ⟨ax, ay, rfl, fe, ff⟩
        have c6 := fe.sub (M := [0]) rfl
        have c7 := ff.sub (M := [0]) rfl
        have fg := b.n c5
        refine Lw.r rfl (R.ext (vs := [.agg [ax, ay].toArray, vI b2.2]) (v := .agg [ax, ay].toArray) rfl rfl) (Lw.r rfl (R.ext (vs := [.agg [ax, ay].toArray, vI b2.2]) (v := vI b2.2) rfl rfl) (sta (x.up c5) (zaa c6.oc (zaa c7.oc zaw)) fun gv fh fi => ?_))
        have b4 := fh.s
        refine Ni rfl ?_
        cases hm
        exact Cw.ret (zeM rfl fi rfl (Res.mk (fg.trans b4) ⟨ax, ay, rfl, (c6.ul b4), (c7.ul b4)⟩))
       ·refine sk (sr (la f (fl a rfl (fl a rfl (fl a rfl (cr hm (fun _ => p108 (Repo.rd (K := [0]) x0.Commits x0.Heads (d.ul b) (e.ul b))) ?_))))))
        rintro b5 _ gw hm c8 ⟨az, a0, rfl, fj, fm⟩
        have c9 := fj.sub (M := [0]) rfl
        have da := fm.sub (M := [0]) rfl
        have fn := b.n c8
        refine Lw.r rfl (R.ext (vs := [.agg [az, a0].toArray, vI b5.2]) (v := .agg [az, a0].toArray) rfl rfl) (Lw.r rfl (R.ext (vs := [.agg [az, a0].toArray, vI b5.2]) (v := vI b5.2) rfl rfl) (sta (x.up c8) (zaa c9.oc (zaa da.oc zaw)) fun gx fo fp => ?_))
        have b7 := fo.s
        refine Ni rfl ?_
        cases hm
        exact Cw.ret (zeM rfl fp rfl (Res.mk (fn.trans b7) ⟨az, a0, rfl, (c9.ul b7), (da.ul b7)⟩))
 ·refine sr (mi rfl (Lw.ge rfl (nl (cn hm (fun hm => ?_) fun hm => ?_))))
  ·refine rg (fl ch rfl (mi rfl ?_))
   obtain ⟨fq, db, hm⟩ := ob hm
   refine Lw.r rfl (R.ix (α := Commit) (d.ul a5) db rfl rfl rfl) (Lw.fa rfl ?_)
   obtain ⟨dc, c263, r264⟩ := (Commit.at2 ((d.ul a5).at_ db)).cell rfl
   exact Lw.r rfl (R.ld rfl rfl c263) (Nv dc rfl ((ag) ⟨fq.Tree, dc, ac, rfl, Le.refl _ _, rfl, r264, hm⟩))
  ·exact sk ((ag) ⟨([] : List File), a3, ac, rfl, Le.refl _ _, rfl, dq, hm⟩)
theorem p79 {x0 d f x1 h r} (i : Rd W K [d, f] x0) (k : Rd W K [vI x1.Kind, vS x1.Branch, vS x1.Who, vS x1.Path, vS x1.To, vI x1.At, h] x1) (hm : Vm.zfa x0 x1 = some r) : Q1 79 [.agg [d, f].toArray, .agg [vI x1.Kind, vS x1.Branch, vS x1.Who, vS x1.Path, vS x1.To, vI x1.At, h].toArray] W [] fun W' v => ∃ a b, v = .tuple [.agg [a, b].toArray, vI r.2].toArray ∧ Rd W' (0 :: K) [a] r.1.Commits ∧ Rd W' (0 :: K) [b] r.1.Heads :=
 (c79 (i.view _) (k.view _) hm).ad (fk 0) fun _ _ ⟨a, b, e, x, y⟩ => ⟨a, b, e, x.back rfl, y.back rfl⟩
theorem c60 {x0 i r} (P : Rd W0 [0] [i] x0) (hm : Vm.zdu x0 = some r) : Q0 60 [i] W0 fun Wf v => ∃ bb bc, v = .agg [bb, bc].toArray ∧ Rd Wf [0] [bb] r.Commits ∧ Rd Wf [0] [bc] r.Heads := by
 unfold Vm.zdu at hm
 refine zap.of Tryz.func60 rfl rfl rfl rfl (sr (al 2 [.slice none 0 0, .slice none 0 0] fun g1 W1 l1 b1 => ?_))
 have a2 := l1.o
 refine nl (sr (Lw.r rfl (R.bd (zs := [.slice none 0 0, .slice none 0 0]) (cs := [.slice none 0 0, .slice none 0 0]) [] rfl rfl rfl zcU) (al 3 [.slice none 0 0, .slice none 0 0] fun g3 W3 l3 b3 => ?_)))
 have a4 := a2.n l3
 refine sta b3 (zaa rfl (zaa rfl zaw)) fun W6 l6 b6 => ?_
 have a7 := a4.t l6
 refine nl (ssr (Ni rfl (Cw.block ?_)))
 obtain ⟨cb, cc, hm⟩ := za1 hm
 refine Cw.loop 8 32 [4, 5, 6] (fun m l w => ∃ f G H ae af k y A, CW.w A = w ∧ Le [3, 6] W6 A ∧ l = [vI f, ae, af] ∧ Rd A [0] [k] G ∧ Rd A [0] [y] H ∧ Bx A 3 g3 [k, y] ∧ Vm.zbk x0 cb m f G H = some r) _ ⟨0, ([] : List Commit), ([] : List Head), undef, undef, .slice none 0 0, .slice none 0 0, W6, rfl, Le.refl _ _, rfl, rdN, rdN, b6, hm⟩ ?_
 rintro (_ | dx) _ _ σ ⟨f, G, H, ae, af, k, y, A, rfl, ah, rfl, r14, r17, bj, hm⟩
 ·cases hm
 unfold Vm.zbk at hm
 have I := a7.t ah
 refine Cw.seq ?_
 obtain ⟨cd, ce, hm⟩ := za1 hm
 refine Cw.join 8 15 [15] (fun l w => ∃ ai Q, CW.w Q = w ∧ Le [] A Q ∧ l = [vB ai] ∧ cd ai = some r) ?_ ?_
 ·rintro _ _ σ ⟨ai, Q, rfl, J, rfl, hm⟩
  rw [ce] at hm
  have B := J.o
  refine cn hm (fun hm => ?_) fun hm => ?_
  ·refine sk ?_
   obtain ⟨cf, cg, hm⟩ := za1 hm
   refine Cw.join 18 32 [5, 6] (fun l w => ∃ S U aj ak V Y D, CW.w D = w ∧ Le [3, 6] Q D ∧ l = [aj, ak] ∧ Rd D [0] [V] S ∧ Rd D [0] [Y] U ∧ Bx D 3 g3 [V, Y] ∧ cf S U = some r) ?_ ?_
   ·rintro _ _ σ ⟨S, U, aj, ak, V, Y, D, rfl, ch, rfl, r35, r38, ci, hm⟩
    rw [cg] at hm
    exact rg (mi rfl (Lw.add rfl (Ni rfl ((agm) ⟨w64 (f + 1), S, U, aj, ak, V, Y, D, rfl, ((ah.j J).j ch).w, rfl, r35, r38, ci, hm⟩))))
   ·refine Cw.block (sr (mv i rfl (mi rfl ?_)))
    obtain ⟨E, bk, hm⟩ := ob hm
    have bl := P.ul (I.trans B)
    refine Lw.r rfl (R.ix (α := Vm.Op) bl bk rfl rfl rfl) ?_
    obtain ⟨x47, c48, _, r49⟩ := (bl.at_ bk).cells
    obtain ⟨dy, rfl, r51⟩ := Op.split r49
    refine Lw.r rfl (R.lda c48 rfl rfl) (ca hm (fun _ => p78 (Op.rd (K := [0]) E.Kind E.Branch E.Who E.Path E.To E.At E.Text r51)) fun dz cj hm Z => ?_)
    have L := Z.o
    have am := (bj.up J).up Z
    refine nl (cn hm (fun hm => ?_) fun hm => ?_)
    ·refine Cw.seq ?_
     obtain ⟨b, bm, hm⟩ := ob hm
     obtain ⟨a, ck, hm⟩ := ob hm
     refine Cw.par [[], [], [], [1, 2], [1, 2, 3], [0, 1, 2, 3, 4], [0, 1, 2, 3, 4, 5], [0, 1, 2, 3, 4, 5, 6], [0, 1, 2, 3, 4, 5, 6], [], [0, 1, 2, 3, 4, 5, 6, 7, 9], [0, 1, 2, 3, 4, 5, 6, 7, 8, 9, 10]] [[], [], [], [1, 2], [3], [0, 4], [5], [5, 6], [5, 6], [], [5, 7, 9], [8]] [[], [], [], [], [], [], [], [], [], [], [6], []] [[0], [1], [2], [3], [4], [5], [5, 6], [5, 7], [8], [9], [5, 9], [11]] [[], [], [], [], [0], [0], [], [], [], [6], [6], []] [0, 1, 2, 3, 4, 5, 6, 7, 8, 10, 11] [6] [fun vs W => (vs 0) = .agg [k, y].toArray, fun vs W => (vs 1) = i, fun vs W => (vs 2) = vI f, fun vs W => (vs 3) = ptr ((slA i).add ((f).toNat * Rp.sz (Vm.Op))), fun vs W => (vs 4) = .agg [vI b.Kind, vS b.Branch, vS b.Who, vS b.Path, vS b.To, vI b.At, (zaJ (vs 4) 6)].toArray ∧ Rd W [0] [(zaJ (vs 4) 6)] b.Text, fun vs W => (vs 5) = .tuple [.agg [(zaJ (zaJ (vs 5) 0) 0), (zaJ (zaJ (vs 5) 0) 1)].toArray, vI a.2].toArray ∧ Rd W [0] [(zaJ (zaJ (vs 5) 0) 0)] a.1.Commits ∧ Rd W [0] [(zaJ (zaJ (vs 5) 0) 1)] a.1.Heads, fun vs W => (vs 6) = .tuple [.agg [(zaJ (zaJ (vs 5) 0) 0), (zaJ (zaJ (vs 5) 0) 1)].toArray, vI a.2].toArray, fun vs W => (vs 7) = .agg [(zaJ (zaJ (vs 5) 0) 0), (zaJ (zaJ (vs 5) 0) 1)].toArray, fun vs W => (vs 8) = vI a.2, fun vs W => (vs 9) = ptr (bx (pg (vs 9))) ∧ Bx W 6 (pg (vs 9)) [.slice none 0 0, .slice none 0 0], fun vs W => (vs 9) = ptr (bx (pg (vs 9))) ∧ Bx W 6 (pg (vs 9)) [(zaJ (zaJ (vs 5) 0) 0), (zaJ (zaJ (vs 5) 0) 1)], fun vs W => (vs 11) = vI a.2] [] mixed (by kernel_rfl) rfl zoO.nil ?_
     intro d0 aa
     have an := aa.o
     refine ⟨(zdc.cons ?_ (zdc.cons ?_ (zdc.cons ?_ (zdc.cons ?_ (zdc.cons ?_ (zdc.cons ?_ (zdc.cons ?_ (zdc.cons ?_ (zdc.cons ?_ (zdc.cons ?_ (zdc.cons ?_ (zdc.cons ?_ zdc.nil)))))))))))), (zge.cons (fun vs vs' W W' _ hv l hd h => by (show (vs' 0) = .agg [k, y].toArray); rw [hv 0 (zbM rfl)]; exact h) (zge.cons (fun vs vs' W W' _ hv l hd h => by (show (vs' 1) = i); rw [hv 1 (zbM rfl)]; exact h) (zge.cons (fun vs vs' W W' _ hv l hd h => by (show (vs' 2) = vI f); rw [hv 2 (zbM rfl)]; exact h) (zge.cons (fun vs vs' W W' _ hv l hd h => by (show (vs' 3) = ptr ((slA i).add ((f).toNat * Rp.sz (Vm.Op)))); rw [hv 3 (zbM rfl)]; exact h) (zge.cons (fun vs vs' W W' _ hv l hd h => by (show (vs' 4) = .agg [vI b.Kind, vS b.Branch, vS b.Who, vS b.Path, vS b.To, vI b.At, (zaJ (vs' 4) 6)].toArray ∧ Rd W' [0] [(zaJ (vs' 4) 6)] b.Text); rw [hv 4 (zbM rfl)]; exact ⟨h.1, h.2.up l (zhs hd (K := [0]) rfl)⟩) (zge.cons (fun vs vs' W W' _ hv l hd h => by (show (vs' 5) = .tuple [.agg [(zaJ (zaJ (vs' 5) 0) 0), (zaJ (zaJ (vs' 5) 0) 1)].toArray, vI a.2].toArray ∧ Rd W' [0] [(zaJ (zaJ (vs' 5) 0) 0)] a.1.Commits ∧ Rd W' [0] [(zaJ (zaJ (vs' 5) 0) 1)] a.1.Heads); rw [hv 5 (zbM rfl)]; exact ⟨h.1, h.2.1.up l (zhs hd (K := [0]) rfl), h.2.2.up l (zhs hd (K := [0]) rfl)⟩) (zge.cons (fun vs vs' W W' _ hv l hd h => by (show (vs' 6) = .tuple [.agg [(zaJ (zaJ (vs' 5) 0) 0), (zaJ (zaJ (vs' 5) 0) 1)].toArray, vI a.2].toArray); rw [hv 5 (zbM rfl), hv 6 (zbM rfl)]; exact h) (zge.cons (fun vs vs' W W' _ hv l hd h => by (show (vs' 7) = .agg [(zaJ (zaJ (vs' 5) 0) 0), (zaJ (zaJ (vs' 5) 0) 1)].toArray); rw [hv 5 (zbM rfl), hv 7 (zbM rfl)]; exact h) (zge.cons (fun vs vs' W W' _ hv l hd h => by (show (vs' 8) = vI a.2); rw [hv 8 (zbM rfl)]; exact h) (zge.cons (fun vs vs' W W' _ hv l hd h => by (show (vs' 9) = ptr (bx (pg (vs' 9))) ∧ Bx W' 6 (pg (vs' 9)) [.slice none 0 0, .slice none 0 0]); rw [hv 9 (zbM rfl)]; exact ⟨h.1, h.2.up l (zfH hd (c := 6) rfl)⟩) (zge.cons (fun vs vs' W W' _ hv l hd h => by (show (vs' 9) = ptr (bx (pg (vs' 9))) ∧ Bx W' 6 (pg (vs' 9)) [(zaJ (zaJ (vs' 5) 0) 0), (zaJ (zaJ (vs' 5) 0) 1)]); rw [hv 5 (zbM rfl), hv 9 (zbM rfl)]; exact ⟨h.1, h.2.up l (zfH hd (c := 6) rfl)⟩) (zge.cons (fun vs vs' W W' _ hv l hd h => by (show (vs' 11) = vI a.2); rw [hv 11 (zbM rfl)]; exact h) zge.nil)))))))))))), ?_⟩
     ·intro vs W lW hN hV
      obtain ⟨cl, cm⟩ : ∃ X, X = W := ⟨W, rfl⟩
      subst cm
      refine Tr.mono (Run.tr (R.lda (cs := [k, y]) ((am.up aa).up lW rfl).cells rfl rfl)) ?_
      rintro _ _ ⟨hu, rfl⟩
      obtain rfl := hu.symm
      exact ⟨cl, rfl, Le.refl _ _, (show (.agg [k, y].toArray : Value) = .agg [k, y].toArray from rfl)⟩
     ·intro vs W lW hN hV
      obtain ⟨co, cp⟩ : ∃ X, X = W := ⟨W, rfl⟩
      subst cp
      refine Tr.mono (Run.tr (R.mv (v := i) rfl)) ?_
      rintro _ _ ⟨hu, rfl⟩
      obtain rfl := hu.symm
      exact ⟨co, rfl, Le.refl _ _, (show (i : Value) = i from rfl)⟩
     ·intro vs W lW hN hV
      obtain ⟨cq, ct⟩ : ∃ X, X = W := ⟨W, rfl⟩
      subst ct
      refine Tr.mono (Run.tr (R.mv (v := vI f) rfl)) ?_
      rintro _ _ ⟨hu, rfl⟩
      obtain rfl := hu.symm
      exact ⟨cq, rfl, Le.refl _ _, (show (vI f : Value) = vI f from rfl)⟩
     ·intro vs W lW hN hV
      obtain ⟨cu, cv⟩ : ∃ X, X = W := ⟨W, rfl⟩
      subst cv
      have cw := (((I.trans B).trans L).trans an).t lW rfl
      have ao : vs 1 = i := (hN 1 (zbM rfl))
      obtain ⟨vs, rfl⟩ := zch ao
      have ap : vs 2 = vI f := (hN 2 (zbM rfl))
      obtain ⟨vs, rfl⟩ := zch ap
      refine Tr.mono (Run.tr (R.ix (α := Vm.Op) (P.ul cw) bm rfl rfl rfl)) ?_
      rintro _ _ ⟨hu, rfl⟩
      obtain rfl := hu.symm
      exact ⟨cu, rfl, Le.refl _ _, (show (ptr ((slA i).add ((f).toNat * Rp.sz (Vm.Op))) : Value) = ptr ((slA i).add ((f).toNat * Rp.sz (Vm.Op))) from rfl)⟩
     ·intro vs W lW hN hV
      obtain ⟨bn, cx⟩ : ∃ X, X = W := ⟨W, rfl⟩
      subst cx
      have cy := (((I.trans B).trans L).trans an).t lW rfl
      have aq : vs 3 = ptr ((slA i).add ((f).toNat * Rp.sz (Vm.Op))) := (hN 3 (zbM rfl))
      obtain ⟨vs, rfl⟩ := zch aq
      obtain ⟨x115, c116, _, r117⟩ := ((P.ul cy).at_ bm).cells
      obtain ⟨ar, rfl, r119⟩ := Op.split r117
      refine Tr.mono (Run.tr (R.lda c116 rfl rfl)) ?_
      rintro _ _ ⟨hu, rfl⟩
      obtain rfl := hu.symm
      exact ⟨bn, rfl, Le.refl _ _, (show (.agg [vI b.Kind, vS b.Branch, vS b.Who, vS b.Path, vS b.To, vI b.At, ar].toArray : Value) = .agg [vI b.Kind, vS b.Branch, vS b.Who, vS b.Path, vS b.To, vI b.At, ar].toArray ∧ Rd bn [0] [ar] b.Text from ⟨rfl, r119⟩)⟩
     ·intro vs W lW hN hV
      obtain ⟨cz, c0⟩ : ∃ X, X = W := ⟨W, rfl⟩
      subst c0
      have bp := ((B.trans L).trans an).t lW rfl
      have au : vs 0 = .agg [k, y].toArray := (hN 0 (zbM rfl))
      obtain ⟨vs, rfl⟩ := zch au
      obtain ⟨F, av⟩ : ∃ F : Value, vs 4 = .agg [vI b.Kind, vS b.Branch, vS b.Who, vS b.Path, vS b.To, vI b.At, F].toArray := ⟨_, (hN 4 (zbM rfl)).1⟩
      obtain ⟨vs, rfl⟩ := zch av
      have c1 : Rd cz [0] [F] b.Text := (hN 4 (zbM rfl)).2
      refine Tr.mono (T.call rfl (p79  (x0 := (Vm.Repo.mk G H)) (Repo.rd (K := [0]) G H (r14.ul bp) (r17.ul bp)) (Op.rd (K := [0]) b.Kind b.Branch b.Who b.Path b.To b.At b.Text c1) ck)) ?_
      rintro _ _ ⟨aw, rfl, c2, ⟨ax, ay, rfl, c3, c4⟩⟩
      have c5 := c3.sub (M := [0]) rfl
      have c6 := c4.sub (M := [0]) rfl
      exact ⟨aw, rfl, c2, (show (.tuple [.agg [ax, ay].toArray, vI a.2].toArray : Value) = .tuple [.agg [ax, ay].toArray, vI a.2].toArray ∧ Rd aw [0] [ax] a.1.Commits ∧ Rd aw [0] [ay] a.1.Heads from ⟨rfl, c5, c6⟩)⟩
     ·intro vs W lW hN hV
      obtain ⟨az, c7⟩ : ∃ X, X = W := ⟨W, rfl⟩
      subst c7
      obtain ⟨d, e, C⟩ : ∃ d e : Value, vs 5 = .tuple [.agg [d, e].toArray, vI a.2].toArray := ⟨_, _, (hN 5 (zbM rfl)).1⟩
      obtain ⟨vs, rfl⟩ := zch C
      have d1 : Rd az [0] [d] a.1.Commits := (hN 5 (zbM rfl)).2.1
      have d2 : Rd az [0] [e] a.1.Heads := (hN 5 (zbM rfl)).2.2
      refine Tr.mono (Run.tr (R.mv (v := .tuple [.agg [d, e].toArray, vI a.2].toArray) rfl)) ?_
      rintro _ _ ⟨hu, rfl⟩
      obtain rfl := hu.symm
      exact ⟨az, rfl, Le.refl _ _, (show (.tuple [.agg [d, e].toArray, vI a.2].toArray : Value) = .tuple [.agg [d, e].toArray, vI a.2].toArray from rfl)⟩
     ·intro vs W lW hN hV
      obtain ⟨a0, c8⟩ : ∃ X, X = W := ⟨W, rfl⟩
      subst c8
      obtain ⟨d, e, C⟩ : ∃ d e : Value, vs 5 = .tuple [.agg [d, e].toArray, vI a.2].toArray := ⟨_, _, (hN 5 (zbM rfl)).1⟩
      obtain ⟨vs, rfl⟩ := zch C
      have d3 : Rd a0 [0] [d] a.1.Commits := (hN 5 (zbM rfl)).2.1
      have d4 : Rd a0 [0] [e] a.1.Heads := (hN 5 (zbM rfl)).2.2
      have N : vs 6 = .tuple [.agg [d, e].toArray, vI a.2].toArray := (hN 6 (zbM rfl))
      obtain ⟨vs, rfl⟩ := zch N
      refine Tr.mono (Run.tr (R.ext (vs := [.agg [d, e].toArray, vI a.2]) (v := .agg [d, e].toArray) rfl rfl)) ?_
      rintro _ _ ⟨hu, rfl⟩
      obtain rfl := hu.symm
      exact ⟨a0, rfl, Le.refl _ _, (show (.agg [d, e].toArray : Value) = .agg [d, e].toArray from rfl)⟩
     ·intro vs W lW hN hV
      obtain ⟨a1, c9⟩ : ∃ X, X = W := ⟨W, rfl⟩
      subst c9
      obtain ⟨d, e, C⟩ : ∃ d e : Value, vs 5 = .tuple [.agg [d, e].toArray, vI a.2].toArray := ⟨_, _, (hN 5 (zbM rfl)).1⟩
      obtain ⟨vs, rfl⟩ := zch C
      have d5 : Rd a1 [0] [d] a.1.Commits := (hN 5 (zbM rfl)).2.1
      have d6 : Rd a1 [0] [e] a.1.Heads := (hN 5 (zbM rfl)).2.2
      have N : vs 6 = .tuple [.agg [d, e].toArray, vI a.2].toArray := (hN 6 (zbM rfl))
      obtain ⟨vs, rfl⟩ := zch N
      refine Tr.mono (Run.tr (R.ext (vs := [.agg [d, e].toArray, vI a.2]) (v := vI a.2) rfl rfl)) ?_
      rintro _ _ ⟨hu, rfl⟩
      obtain rfl := hu.symm
      exact ⟨a1, rfl, Le.refl _ _, (show (vI a.2 : Value) = vI a.2 from rfl)⟩
     ·intro vs W lW hN hV
      obtain ⟨d7, da⟩ : ∃ X, X = W := ⟨W, rfl⟩
      subst da
      refine Tr.mono (T.alloc 6 (cs := [.slice none 0 0, .slice none 0 0]) rfl) ?_
      rintro _ _ ⟨a3, bq, rfl, rfl, db, dc⟩
      exact ⟨bq, rfl, db, (show (ptr (bx a3) : Value) = ptr (bx a3) ∧ Bx bq 6 a3 [.slice none 0 0, .slice none 0 0] from ⟨rfl, dc⟩)⟩
     ·intro vs W lW hN hV
      obtain ⟨a5, dd⟩ : ∃ X, X = W := ⟨W, rfl⟩
      subst dd
      obtain ⟨d, e, C⟩ : ∃ d e : Value, vs 5 = .tuple [.agg [d, e].toArray, vI a.2].toArray := ⟨_, _, (hN 5 (zbM rfl)).1⟩
      obtain ⟨vs, rfl⟩ := zch C
      have de : Rd a5 [0] [d] a.1.Commits := (hN 5 (zbM rfl)).2.1
      have df : Rd a5 [0] [e] a.1.Heads := (hN 5 (zbM rfl)).2.2
      have a6 : vs 7 = .agg [d, e].toArray := (hN 7 (zbM rfl))
      obtain ⟨vs, rfl⟩ := zch a6
      obtain ⟨z, a8⟩ : ∃ z, vs 9 = ptr (bx z) := ⟨_, ((hN 9 (zbM rfl))).1⟩
      obtain ⟨vs, rfl⟩ := zch a8
      have dg : Bx a5 6 z [.slice none 0 0, .slice none 0 0] := (hN 9 (zbM rfl)).2
      refine Tr.mono (T.sta (vs := [d, e]) dg rfl rfl (zaa de.oc (zaa df.oc zaw)) rfl rfl) ?_
      rintro _ _ ⟨br, rfl, dh, di⟩
      exact ⟨br, rfl, dh, (show (ptr (bx z)) = ptr (bx z) ∧ Bx br 6 z [d, e] from ⟨rfl, di⟩)⟩
     ·intro vs W lW hN hV
      obtain ⟨dj, dk⟩ : ∃ X, X = W := ⟨W, rfl⟩
      subst dk
      have a9 : vs 8 = vI a.2 := (hN 8 (zbM rfl))
      obtain ⟨vs, rfl⟩ := zch a9
      refine Tr.mono (Run.tr (R.as (v := vI a.2) rfl)) ?_
      rintro _ _ ⟨hu, rfl⟩
      obtain rfl := hu.symm
      exact ⟨dj, rfl, Le.refl _ _, (show (vI a.2 : Value) = vI a.2 from rfl)⟩
     ·intro vs W lW hN
      obtain ⟨ac, dl⟩ : ∃ X, X = W := ⟨W, rfl⟩
      subst dl
      obtain ⟨dm, hl174⟩ : ∃ x, x = lW := ⟨lW, rfl⟩
      have au : vs 0 = .agg [k, y].toArray := (hN 0 (zbM rfl))
      obtain ⟨vs, rfl⟩ := zch au
      have ao : vs 1 = i := (hN 1 (zbM rfl))
      obtain ⟨vs, rfl⟩ := zch ao
      have ap : vs 2 = vI f := (hN 2 (zbM rfl))
      obtain ⟨vs, rfl⟩ := zch ap
      have aq : vs 3 = ptr ((slA i).add ((f).toNat * Rp.sz (Vm.Op))) := (hN 3 (zbM rfl))
      obtain ⟨vs, rfl⟩ := zch aq
      obtain ⟨F, av⟩ : ∃ F : Value, vs 4 = .agg [vI b.Kind, vS b.Branch, vS b.Who, vS b.Path, vS b.To, vI b.At, F].toArray := ⟨_, (hN 4 (zbM rfl)).1⟩
      obtain ⟨vs, rfl⟩ := zch av
      have d8 : Rd ac [0] [F] b.Text := (hN 4 (zbM rfl)).2
      obtain ⟨d, e, C⟩ : ∃ d e : Value, vs 5 = .tuple [.agg [d, e].toArray, vI a.2].toArray := ⟨_, _, (hN 5 (zbM rfl)).1⟩
      obtain ⟨vs, rfl⟩ := zch C
      have bu : Rd ac [0] [d] a.1.Commits := (hN 5 (zbM rfl)).2.1
      have bv : Rd ac [0] [e] a.1.Heads := (hN 5 (zbM rfl)).2.2
      have N : vs 6 = .tuple [.agg [d, e].toArray, vI a.2].toArray := (hN 6 (zbM rfl))
      obtain ⟨vs, rfl⟩ := zch N
      have a6 : vs 7 = .agg [d, e].toArray := (hN 7 (zbM rfl))
      obtain ⟨vs, rfl⟩ := zch a6
      have a9 : vs 8 = vI a.2 := (hN 8 (zbM rfl))
      obtain ⟨vs, rfl⟩ := zch a9
      obtain ⟨z, a8⟩ : ∃ z, vs 9 = ptr (bx z) := ⟨_, (hN 10 (zbM rfl)).1⟩
      obtain ⟨vs, rfl⟩ := zch a8
      have dn : Bx ac 6 z [d, e] := (hN 10 (zbM rfl)).2
      have dp : vs 11 = vI a.2 := (hN 11 (zbM rfl))
      obtain ⟨vs, rfl⟩ := zch dp
      refine rg (Lw.r rfl (R.lda (cs := [d, e]) dn.cells rfl rfl) (sta ((am.up aa).up lW rfl) (zaa bu.oc (zaa bv.oc zaw)) fun dq bw dr => ?_))
      have bz := bw.s
      exact nl ((ag) ⟨a.1.Commits, a.1.Heads, ptr (bx z), vI a.2, d, e, dq, rfl, (((Z.j aa).j dm).j bw).w, rfl, (bu.ul bz), (bv.ul bz), dr, hm⟩)
    ·exact sk ((ag) ⟨G, H, ae, af, k, y, cj, rfl, Z.w, rfl, (r14.ul (B.trans L)), (r17.ul (B.trans L)), am, hm⟩)
  ·refine Cw.exit ?_
   rw [cc] at hm
   refine sr (la (bj.up J) (sta ((((b1.up l3).up l6).up ah).up J) (zaa r14.oc (zaa r17.oc zaw)) fun d9 ds dt => ?_))
   have ba := ds.s
   refine nl ?_
   cases hm
   exact Cw.ret (zke rfl dt (Res.mk ((I.trans B).trans ba) ⟨k, y, rfl, (r14.ul (B.trans ba)), (r17.ul (B.trans ba))⟩))
 ·refine rg (mi rfl (mv i rfl (Lw.ln x0 (P.ul I) rfl (Lw.lt rfl (mb rfl (bs hm (fun O hm => ?_) fun O hm => ?_))))))
  ·exact wak 2 O (mi rfl (Lw.lt rfl (Pb O rfl (nl ((ag) ⟨decide ((f : Int) < (30 : Int)), A, rfl, Le.refl _ _, rfl, hm⟩)))))
  ·exact psk 2 O rfl (Pb O rfl (nl ((ag) ⟨false, A, rfl, Le.refl _ _, rfl, hm⟩)))
theorem p60 {x0 d r} (f : Rd W K [d] x0) (hm : Vm.zdu x0 = some r) : Q1 60 [d] W [] fun W' v => ∃ a b, v = .agg [a, b].toArray ∧ Rd W' (0 :: K) [a] r.Commits ∧ Rd W' (0 :: K) [b] r.Heads :=
 (c60 (f.view _) hm).ad (fk 0) fun _ _ ⟨a, b, e, h, i⟩ => ⟨a, b, e, h.back rfl, i.back rfl⟩
theorem c36 {x0 f h r} (hB0 : Bx W0 2 f [h, vI x0.p]) (F : Rd W0 [0] [h] x0.b) (hm : Vm.zd0 x0 = some r) : Q0 36 [ptr (bx f)] W0 fun Wf v => ∃ x y, v = .agg [x, y].toArray ∧ OwS Wf [31] [] [x] r.1.Commits ∧ OwS Wf [32] [] [y] r.1.Heads ∧ Bx Wf 2 f [h, vI r.2] := by
 unfold Vm.zd0 at hm
 refine zap.of Tryz.func36 rfl rfl rfl rfl (sr (al 3 [.slice none 0 0, .slice none 0 0] fun g1 W1 z G => ?_))
 have A := z.o
 have H := hB0.up z
 refine nl (sr (mp rfl (cr hm (fun _ => p61 (k0 := 4) (c0 := 2) (x0 := x0) H (F.ul A) rfl) ?_)))
 rintro z5 aj W7 hm B ⟨_, rfl, I, J⟩
 have L := A.t B
 refine cr hm (fun _ => p60 (K := [4]) I.rd) ?_
 rintro C _ am hm i ⟨an, ao, rfl, N, O⟩
 have P := N.sub (M := [0, 4]) rfl
 have Q := O.sub (M := [0, 4]) rfl
 have R := L.n i
 refine cr hm (fun _ => p59 (K := [0, 4]) (k0 := 5) (k1 := 6) (Repo.rd (K := [0, 4]) C.Commits C.Heads P Q)) ?_
 rintro ap _ aq hm k ⟨S, T, rfl, D, E⟩
 have U := R.n k
 refine sta (((G.up B).up i).up k) (zaa D.oc (zaa E.oc zaw)) fun ar a V => ?_
 have W := U.t a
 refine nl ?_
 obtain ⟨au, X, d, Y⟩ := (D.up a).dyeO 31
 have Z := W.t d
 obtain ⟨av, aa, e, ac⟩ := ((E.up a).up d).dyeO 32
 have ae := Z.t e
 cases hm
 rw [← aa.trans (X)]
 exact Cw.ret (zke rfl ((V.up d).up e) (Res.mk ae ⟨S, T, rfl, (Y.up e).s, ac.s, (((((J.up i).up k).up a).up d).up e)⟩))
theorem p36 {x0 f h k0 k1 c0 r} (hB0 : Bx W c0 f [h, vI x0.p]) (i : Rd W K [h] x0.b) (hJ : okJ K [c0] = true) (hm : Vm.zd0 x0 = some r) : Q1 36 [ptr (bx f)] W [c0] fun W' v => ∃ a d, v = .agg [a, d].toArray ∧ Ow W' k0 [] [a] r.1.Commits ∧ Ow W' k1 [] [d] r.1.Heads ∧ Bx W' c0 f [h, vI r.2] :=
 zap.adJ (J := [c0]) (fun c => bif Nat.beq c 0 then 0 else bif Nat.beq c 2 then c0 else bif Nat.beq c 31 then k0 else bif Nat.beq c 32 then k1 else 0) (c36 (hB0.viewJ 0 hJ) (i.view _) hm) fun _ _ ⟨a, d, e, k, x, y⟩ => ⟨a, d, e, k.one1.backN rfl, x.one1.backN rfl, Bx.backJ 0 y rfl⟩
end Go.Sx
