/- Walks: each function answers as its model, printed by a program of ours. Conditions: the arguments read as they are given. -/
import Derived.Test.YtnjcbcngjmkajaaGreatDoorETs
import Derived.Test.YtnjcbcngjmkajaaGreatDoorEM0
import Derived.Test.YtnjcbcngjmkajaaGreatDoorEW0
import Derived.Test.YtnjcbcngjmkajaaGreatDoorEW1
import Derived.Test.YtnjcbcngjmkajaaGreatDoorEW2
import Derived.Test.YtnjcbcngjmkajaaGreatDoorEW3
namespace Go.Sx
open Go Go.Proofs Go.Vm Rp
set_option linter.unusedVariables false
set_option linter.unusedSimpArgs false
variable {W W0 : CW} {K : List Nat}
theorem c156 {x0 d x1 a x2 b r} (C : Rd W0 [0] [d] x0) (e : Rd W0 [0] [a] x1) (f : Rd W0 [0] [b] x2) (hm : Vm.zez x0 x1 x2 = some r) : Q0 156 [d, a, b] W0 fun Wf v => ∃ V W X Y, v = .agg [vB r.Clash, V, W, X, Y].toArray ∧ OwS Wf [31] [] [V] r.Lines ∧ OwS Wf [32] [] [W] r.Old ∧ OwS Wf [33] [] [X] r.One ∧ OwS Wf [34] [] [Y] r.Two := by
 unfold Vm.zez at hm
 refine zap.of Tryz.func156 rfl rfl rfl rfl (sr (al 2 [vB false, .slice none 0 0, .slice none 0 0, .slice none 0 0, .slice none 0 0] fun g1 W1 l1 Z => ?_))
 have h := l1.o
 refine nl (Cw.seq (Cw.block ?_))
 obtain ⟨K5, a3, hm⟩ := za1 hm
 refine Cw.join 7 13 [7] (fun l w => ∃ D E, CW.w E = w ∧ Le [] W1 E ∧ l = [vB D] ∧ K5 D = some r) ?_ ?_
 ·rintro _ _ σ ⟨D, E, rfl, F, rfl, hm⟩
  rw [a3] at hm
  have i := h.n F
  refine cn hm (fun hm => ?_) fun hm => ?_
  ·refine sr (Lw.t rfl (T.lit0 (α := Str) 3 []) ?_)
   rintro v9 _ ⟨W9, rfl, l9, o9⟩
   have ac := i.n l9
   refine mv b rfl ?_
   obtain ⟨cp, a5, hm⟩ := ob hm
   refine Lw.t rfl (T.appP (α := Str) o9 (f.ul ac) rfl rfl a5) ?_
   rintro G _ ⟨cq, rfl, ae, H⟩
   have a7 := ac.t ae
   refine Lw.r rfl (R.bd (zs := [vB false, .slice none 0 0, .slice none 0 0, .slice none 0 0, .slice none 0 0]) (cs := [vB false, G, .slice none 0 0, .slice none 0 0, .slice none 0 0]) [(1, G)] rfl rfl rfl (zaD H.oc rfl zcU)) (sta (((Z.up F).up l9).up ae) (zaa rfl (zaa H.oc (zaa rfl (zaa rfl (zaa rfl zaw))))) fun ct af a8 => ?_)
   have a9 := a7.t af
   refine nl ?_
   obtain ⟨cu, ba, ah, bb⟩ := (H.up af).dyeO 31
   have bc := a9.t ah
   cases hm
   rw [← ba]
   exact Cw.ret (zke rfl (a8.up ah) (Res.mk bc ⟨G, .slice none 0 0, .slice none 0 0, .slice none 0 0, rfl, bb.s, (zmA []).sub rfl rfl, (zmA []).sub rfl rfl, (zmA []).sub rfl rfl⟩))
  ·refine sr (mv b rfl (mv d rfl (ca hm (fun _ => p24 (f.ul i) (C.ul i)) fun cv cw hm ai => ?_)))
   have aj := i.n ai
   have ak := (Z.up F).up ai
   refine Nb rfl (cn hm (fun hm => ?_) fun hm => ?_)
   ·refine sr (Lw.t rfl (T.lit0 (α := Str) 4 []) ?_)
    rintro cx _ ⟨cy, rfl, am, be⟩
    have an := aj.n am
    refine mv a rfl ?_
    obtain ⟨cz, bg, hm⟩ := ob hm
    refine Lw.t rfl (T.appP (α := Str) be (e.ul an) rfl rfl bg) ?_
    rintro I _ ⟨c0, rfl, ao, J⟩
    have bh := an.t ao
    refine Lw.r rfl (R.bd (zs := [vB false, .slice none 0 0, .slice none 0 0, .slice none 0 0, .slice none 0 0]) (cs := [vB false, I, .slice none 0 0, .slice none 0 0, .slice none 0 0]) [(1, I)] rfl rfl rfl (zaD J.oc rfl zcU)) (sta ((ak.up am).up ao) (zaa rfl (zaa J.oc (zaa rfl (zaa rfl (zaa rfl zaw))))) fun c1 ap bi => ?_)
    have bj := bh.t ap
    refine nl ?_
    obtain ⟨c2, bk, aq, bl⟩ := (J.up ap).dyeO 31
    have bm := bj.t aq
    cases hm
    rw [← bk]
    exact Cw.ret (zke rfl (bi.up aq) (Res.mk bm ⟨I, .slice none 0 0, .slice none 0 0, .slice none 0 0, rfl, bl.s, (zmA []).sub rfl rfl, (zmA []).sub rfl rfl, (zmA []).sub rfl rfl⟩))
   ·refine sk (sr (Lw.t rfl (T.lit0 (α := Str) 5 []) ?_))
    rintro c3 _ ⟨c4, rfl, ar, bn⟩
    have au := aj.n ar
    refine mv d rfl ?_
    obtain ⟨c5, bp, hm⟩ := ob hm
    refine Lw.t rfl (T.appP (α := Str) bn (C.ul au) rfl rfl bp) ?_
    rintro K _ ⟨c6, rfl, av, bq⟩
    have br := au.t av
    refine Lw.t rfl (T.lit0 (α := Str) 6 []) ?_
    rintro c7 _ ⟨c8, rfl, L, bu⟩
    have aw := br.n L
    refine mv a rfl ?_
    obtain ⟨c9, bv, hm⟩ := ob hm
    refine Lw.t rfl (T.appP (α := Str) bu (e.ul aw) rfl rfl bv) ?_
    rintro M _ ⟨da, rfl, N, bw⟩
    have bz := aw.t N
    refine Lw.t rfl (T.lit0 (α := Str) 7 []) ?_
    rintro db _ ⟨dc, rfl, k, b0⟩
    have ax := bz.n k
    refine mv b rfl ?_
    obtain ⟨dd, b2, hm⟩ := ob hm
    refine Lw.t rfl (T.appP (α := Str) b0 (f.ul ax) rfl rfl b2) ?_
    rintro O _ ⟨de, rfl, x, P⟩
    have b3 := ax.t x
    have Q := (((bq.up L).up N).up k).up x
    have S := (bw.up k).up x
    refine Lw.r rfl (R.bd (zs := [vB false, .slice none 0 0, .slice none 0 0, .slice none 0 0, .slice none 0 0]) (cs := [vB true, .slice none 0 0, K, M, O]) [(0, vB true), (2, K), (3, M), (4, O)] rfl rfl rfl (zaD rfl rfl (zaD Q.oc rfl (zaD S.oc rfl (zaD P.oc rfl zcU))))) (sta ((((((ak.up ar).up av).up L).up N).up k).up x) (zaa rfl (zaa rfl (zaa Q.oc (zaa S.oc (zaa P.oc zaw))))) fun df y b4 => ?_)
    have b5 := b3.t y
    refine nl ?_
    obtain ⟨dg, b6, z, b7⟩ := (Q.up y).dyeO 32
    have b8 := b5.t z
    obtain ⟨dh, b9, A, cb⟩ := ((S.up y).up z).dyeO 33
    have cc := b8.t A
    obtain ⟨di, cd, B, ce⟩ := (((P.up y).up z).up A).dyeO 34
    have cf := cc.t B
    cases hm
    rw [← cd.trans (b9.trans (b6))]
    exact Cw.ret (zke rfl (((b4.up z).up A).up B) (Res.mk cf ⟨.slice none 0 0, K, M, O, rfl, (zmA []).sub rfl rfl, ((b7.up A).up B).s, (cb.up B).s, ce.s⟩))
 ·refine sr (mv a rfl (mv d rfl (ca hm (fun _ => p24 (e.ul h) (C.ul h)) fun cg ch hm U => ?_)))
  have ay := h.n U
  refine Nb rfl (cn hm (fun hm => ?_) fun hm => ?_)
  ·exact sk ((ag) ⟨cg, ch, rfl, U, rfl, hm⟩)
  ·exact rg (mv a rfl (mv b rfl (ca hm (fun _ => p24 (e.ul ay) (f.ul ay)) fun ci cj hm ck => Nb rfl ((ag) ⟨ci, cj, rfl, (U.j ck).w, rfl, hm⟩))))
theorem p156 {x0 h x1 i x2 k k0 k1 k2 k3 r} (x : Rd W K [h] x0) (y : Rd W K [i] x1) (z : Rd W K [k] x2) (hm : Vm.zez x0 x1 x2 = some r) : Q1 156 [h, i, k] W [] fun W' v => ∃ a b d f, v = .agg [vB r.Clash, a, b, d, f].toArray ∧ Ow W' k0 [] [a] r.Lines ∧ Ow W' k1 [] [b] r.Old ∧ Ow W' k2 [] [d] r.One ∧ Ow W' k3 [] [f] r.Two :=
 zap.adJ (J := []) (fun c => bif Nat.beq c 0 then 0 else bif Nat.beq c 31 then k0 else bif Nat.beq c 32 then k1 else bif Nat.beq c 33 then k2 else bif Nat.beq c 34 then k3 else 0) (c156 (x.view _) (y.view _) (z.view _) hm) fun _ _ ⟨a, b, d, f, e, A, B, C, D⟩ => ⟨a, b, d, f, e, A.one1.backN rfl, B.one1.backN rfl, C.one1.backN rfl, D.one1.backN rfl⟩
theorem c155 {x0 a x1 A B C D r} (N : Ow W0 2 [] [a] x0) (O : Ow W0 3 [] [A] x1.Lines) (aa : Ow W0 4 [] [B] x1.Old) (ac : Ow W0 5 [] [C] x1.One) (ae : Ow W0 6 [] [D] x1.Two) (hm : Vm.zeN x0 x1 = some r) : Q0 155 [a, .agg [vB x1.Clash, A, B, C, D].toArray] W0 fun Wf v => ∃ P, v = P ∧ OwS Wf [31] [] [P] r := by
 unfold Vm.zeN at hm
 refine zap.of Tryz.func155 rfl rfl rfl rfl (sr (bo 7 rfl fun g1 H b E => ?_))
 have a2 := b.o
 refine Nv (.slice none 0 0) rfl (sr (mv a rfl (Lw.ln x0 (N.up b).rd rfl (Ni rfl (Cw.seq ?_)))))
 obtain ⟨ah, ai, hm⟩ := za1 hm
 refine Cw.join 8 16 [16] (fun l w => ∃ I f, CW.w f = w ∧ Le [] H f ∧ l = [vB I] ∧ ah I = some r) ?_ ?_
 ·rintro _ _ σ ⟨I, f, rfl, d, rfl, hm⟩
  rw [ai] at hm
  have Q := a2.n d
  have i := (N.up b).up d
  refine cn hm (fun hm => ?_) fun hm => ?_
  ·refine sr (mv a rfl (Nv a rfl ?_))
   obtain ⟨bp, aj, ak, am⟩ := i.dyeO 31
   have an := Q.t ak
   cases hm
   rw [← aj]
   exact Cw.ret (zhh rfl (Res.mk an ⟨a, rfl, am.s⟩))
  ·refine sk (Cw.seq ?_)
   obtain ⟨ao, ap, hm⟩ := za1 hm
   refine Cw.join 18 33 [33] (fun l w => ∃ K L, CW.w L = w ∧ Le [] f L ∧ l = [vB K] ∧ ao K = some r) ?_ ?_
   ·rintro _ _ σ ⟨K, L, rfl, e, rfl, hm⟩
    rw [ap] at hm
    have S := Q.n e
    have U := ((O.up b).up d).up e
    have V := (E.up d).up e
    refine cn hm (fun hm => ?_) fun hm => ?_
    ·refine Cw.seq (Cw.draw [] [(0, 0), (1, 0), (2, 0), (3, 0), (4, 0), (5, 0), (6, 0), (7, 0), (8, 1), (9, 0), (10, 1), (11, 3), (12, 0), (13, 0), (14, 3)] mixed (by kernel_rfl) fun bq F => ?_)
     have aq := S.n F
     have k := (i.up e).up F
     refine Dv a rfl (Di rfl (Mw.p rfl rfl (fun _ => R.sub rfl rfl) (Dv a rfl (Di rfl (Mw.p rfl rfl (fun _ => R.sub rfl rfl) ?_)))))
     obtain ⟨br, G, hm⟩ := ob hm
     refine Mw.p rfl rfl (fun _ => R.ix (α := Part) k.rd G rfl rfl rfl) (Df rfl ?_)
     obtain ⟨bu, c48, r49⟩ := (Part.at1 (k.rd.at_ G)).cell rfl
     refine Mw.q rfl rfl (fun _ c => R.ld rfl rfl (zam (Part.at1 (k.rd.at_ G)).1 rfl c48 c)) (Dfl (V.up F) rfl rfl rfl ?_)
     obtain ⟨bv, ar, W, au, av⟩ := Ow.take (α := Part) (β := List Str) (j := 8) (jf := 1) k G c48 rfl
     rw [← ar]
     have aw := aq.t W
     obtain ⟨bw, ax, hm⟩ := ob hm
     refine Mw.l rfl rfl (T.appP (α := Str) au ((U.up F).up W).rd rfl rfl ax) ?_
     rintro bz _ ⟨b0, rfl, X, ay⟩
     have az := aw.t X
     obtain ⟨b2, a0, hm⟩ := ob hm
     refine Mw.p rfl rfl (fun _ => R.ix (α := Part) k.rd a0 rfl rfl rfl) (Df rfl ?_)
     obtain ⟨b3, a1, hm⟩ := ob hm
     refine Mw.lu rfl (T.stH (α := Part) (β := List Str) (J := [8]) (av.up (X.sub (M := [8]) rfl) rfl) ay.s a1 rfl rfl rfl rfl) ?_
     rintro _ _ ⟨b4, rfl, a3, a4⟩
     have a5 := az.t a3
     refine Mw.nil (sr (mv a rfl (Nv a rfl ?_)))
     obtain ⟨b5, a6, a7, a8⟩ := a4.dyeO 31
     have a9 := a5.t a7
     cases hm
     rw [← a6]
     exact Cw.ret (zhh rfl (Res.mk a9 ⟨a, rfl, a8.s⟩))
    ·refine sk (sr (mv a rfl (la V (Lw.t rfl (T.bs 9 [.agg [vB x1.Clash, A, B, C, D].toArray] (cs := [vB x1.Clash, A, B, C, D]) rfl rfl (bsA rfl)) ?_))))
     rintro _ _ ⟨b6, b7, rfl, rfl, h, ba⟩
     have bb := S.n h
     obtain ⟨b8, bc, hm⟩ := ob hm
     refine Lw.t rfl (T.app1 (α := Part) (J := [3, 4, 5, 6]) (K' := []) ((i.up e).up h) ba (Part.own x1.Clash x1.Lines x1.Old x1.One x1.Two (U.up h).s ((((aa.up b).up d).up e).up h).s ((((ac.up b).up d).up e).up h).s ((((ae.up b).up d).up e).up h).s) rfl rfl bc) ?_
     rintro Y _ ⟨b9, rfl, be, bg⟩
     have bh := bb.t be
     refine Nv Y rfl ?_
     obtain ⟨cb, bi, bj, bk⟩ := bg.dyeO 31
     have bl := bh.t bj
     cases hm
     rw [← bi]
     exact Cw.ret (zhh rfl (Res.mk bl ⟨Y, rfl, bk.s⟩))
   ·refine rg (mi rfl (Lw.gt rfl (mb rfl (bs hm (fun x hm => ?_) fun x hm => ?_))))
    ·refine wak 3 x (fl (E.up d) rfl (Lw.r rfl (R.not rfl) (Pb x rfl (mb rfl (bs hm (fun y hm => ?_) fun y hm => ?_)))))
     ·refine wak 7 y (mv a rfl (mi rfl (Lw.sub rfl ?_)))
      obtain ⟨bm, Z, hm⟩ := ob hm
      exact Lw.r rfl (R.ix (α := Part) i.rd Z rfl rfl rfl) (Lw.fa rfl (Lw.r rfl (R.ld rfl rfl (Part.at0 (i.rd.at_ Z)).bool) (Lw.r rfl (R.not rfl) (Pb y rfl (nl ((ag) ⟨(!bm.Clash), f, rfl, Le.refl _ _, rfl, hm⟩))))))
     ·exact psk 7 y rfl (Pb y rfl (nl ((ag) ⟨false, f, rfl, Le.refl _ _, rfl, hm⟩)))
    ·exact psk 3 x rfl (Pb x rfl (mb rfl (psk 7 rfl rfl (Pb rfl rfl (nl ((ag) ⟨false, f, rfl, Le.refl _ _, rfl, hm⟩))))))
 ·refine rg (fl E rfl (Lw.r rfl (R.not rfl) (mb rfl (bs hm (fun z hm => ?_) fun z hm => ?_))))
  ·exact wak 4 z (fl E rfl (Lw.ln x1.Lines (O.up b).rd rfl (Lw.eq rfl (Pb z rfl (nl ((ag) ⟨(((x1.Lines.length : Int) : Int) == (0 : Int)), H, rfl, Le.refl _ _, rfl, hm⟩))))))
  ·exact psk 4 z rfl (Pb z rfl (nl ((ag) ⟨false, H, rfl, Le.refl _ _, rfl, hm⟩)))
theorem p155 {x0 b x1 d f h i k0 c0 c1 c2 c3 c4 r} (k : Ow W c0 [] [b] x0) (x : Ow W c1 [] [d] x1.Lines) (y : Ow W c2 [] [f] x1.Old) (z : Ow W c3 [] [h] x1.One) (A : Ow W c4 [] [i] x1.Two) (hJ : okJ K [c0, c1, c2, c3, c4] = true) (hm : Vm.zeN x0 x1 = some r) : Q1 155 [b, .agg [vB x1.Clash, d, f, h, i].toArray] W [c0, c1, c2, c3, c4] fun W' v => ∃ a, v = a ∧ Ow W' k0 [] [a] r :=
 zap.adJ (J := [c0, c1, c2, c3, c4]) (fun c => bif Nat.beq c 0 then 0 else bif Nat.beq c 2 then c0 else bif Nat.beq c 3 then c1 else bif Nat.beq c 4 then c2 else bif Nat.beq c 5 then c3 else bif Nat.beq c 6 then c4 else bif Nat.beq c 31 then k0 else 0) (c155 (k.viewJ 0 hJ) (x.viewJ 1 hJ) (y.viewJ 2 hJ) (z.viewJ 3 hJ) (A.viewJ 4 hJ) hm) fun _ _ ⟨a, e, B⟩ => ⟨a, e, B.one1.backN rfl⟩
theorem c154 {x0 d x1 k x2 x r} (e : Rd W0 [0] [d] x0) (F : Rd W0 [0] [k] x1) (G : Rd W0 [0] [x] x2) (hm : Vm.zfO x0 x1 x2 = some r) : Q0 154 [d, k, x] W0 fun Wf v => ∃ u0, v = u0 ∧ OwS Wf LL [] [u0] r := by
 unfold Vm.zfO at hm
 refine zap.of Tryz.func154 rfl rfl rfl rfl (sr (Nv (.slice none 0 0) rfl (sr (Lw.t rfl (T.lit0 (α := Part) 2 []) ?_))))
 rintro v1 _ ⟨W1, rfl, l1, o1⟩
 have a2 := l1.o
 refine Nv v1 rfl (sr (mv d rfl (mv k rfl (cr hm (fun _ => p75 (k0 := 3) (e.ul a2) (F.ul a2)) ?_))))
 rintro z5 dk W7 hm l7 ⟨_, rfl, bz⟩
 have a8 := a2.n l7
 refine mv k rfl (Lw.ln x1 (F.ul a8) rfl (Lw.t rfl (T.bs 4 [vI (x1.length : Int)] (cs := [vI (x1.length : Int)]) rfl rfl (bsv rfl)) ?_))
 rintro _ _ ⟨dm, dn, rfl, rfl, aj, b0⟩
 have b1 := a8.n aj
 obtain ⟨a5, b2, hm⟩ := ob hm
 refine Lw.t rfl (T.app1S (α := Int) (K' := []) (bz.up aj) b0 (rdI _) rfl rfl b2) ?_
 rintro y _ ⟨dp, rfl, a6, b3⟩
 have ak := b1.t a6
 refine Nv y rfl (sr (mv d rfl (mv x rfl (cr hm (fun _ => p75 (k0 := 5) (e.ul ak) (G.ul ak)) ?_))))
 rintro dq dr ds hm am ⟨_, rfl, b4⟩
 have a7 := ak.n am
 refine mv x rfl (Lw.ln x2 (G.ul a7) rfl (Lw.t rfl (T.bs 6 [vI (x2.length : Int)] (cs := [vI (x2.length : Int)]) rfl rfl (bsv rfl)) ?_))
 rintro _ _ ⟨dt, du, rfl, rfl, H, b5⟩
 have b6 := a7.n H
 obtain ⟨b7, b8, hm⟩ := ob hm
 refine Lw.t rfl (T.app1S (α := Int) (K' := []) (b4.up H) b5 (rdI _) rfl rfl b8) ?_
 rintro I _ ⟨a9, rfl, an, b9⟩
 have cb := b6.t an
 refine Nv I rfl (sr (Ni rfl (sr (Ni rfl (sr (Ni rfl (ssr (Ni rfl (Cw.block ?_)))))))))
 obtain ⟨cc, cd, hm⟩ := za1 hm
 refine Cw.loop 29 91 [7, 10, 11, 12, 13] (fun m l w => ∃ J L N O z a b, CW.w b = w ∧ Le [2, 7, 8, 9, 10, 11, 12, 13, 14, 15, 16] a9 b ∧ l = [a, vI L, vI N, vI O, vI z] ∧ Ow b 2 [] [a] J ∧ Vm.zcm x0 x1 x2 a5 b7 cc m J L N O z = some r) _ ⟨([] : List Part), 0, 0, 0, 0, v1, a9, rfl, Le.refl _ _, rfl, ((((((o1.up l7).up aj).up a6).up am).up H).up an), hm⟩ ?_
 rintro (_ | dv) _ _ σ ⟨J, L, N, O, z, a, b, rfl, P, rfl, ao, hm⟩
 ·cases hm
 unfold Vm.zcm at hm
 have ba := cb.t P
 have Q := (((b3.up am).up H).up an).up P
 have ap := b9.up P
 refine ssr (mi rfl (mv y rfl (Lw.ln a5 Q.rd rfl (Lw.lt rfl (nl (cn hm (fun hm => ?_) fun hm => ?_))))))
 ·refine sk ?_
  obtain ⟨ce, cf, hm⟩ := za1 hm
  refine Cw.join 35 91 [7, 10, 11, 12] (fun l w => ∃ S U V X Y A, CW.w A = w ∧ Le [2, 7, 8, 9, 10, 11, 12, 13, 14, 15, 16] b A ∧ l = [Y, vI U, vI V, vI X] ∧ Ow A 2 [] [Y] S ∧ ce S U V X = some r) ?_ ?_
  ·rintro _ _ σ ⟨S, U, V, X, Y, A, rfl, cg, rfl, ch, hm⟩
   rw [cf] at hm
   exact rg (mi rfl (Lw.add rfl (Ni rfl ((agm) ⟨S, U, V, X, w64 (z + 1), Y, A, rfl, (P.j cg).w, rfl, ch, hm⟩))))
  ·refine Cw.block (Cw.seq ?_)
   obtain ⟨ci, cj, hm⟩ := za1 hm
   refine Cw.join 35 46 [46] (fun l w => ∃ aq Z, CW.w Z = w ∧ Le [] b Z ∧ l = [vB aq] ∧ ci aq = some r) ?_ ?_
   ·rintro _ _ σ ⟨aq, Z, rfl, f, rfl, hm⟩
    rw [cj] at hm
    have ck := ba.n f
    refine cn hm (fun hm => ?_) fun hm => ?_
    ·exact Cw.exit ((ag) ⟨J, L, N, O, a, Z, rfl, f.w, rfl, (ao.up f), hm⟩)
    ·refine sk (Cw.seq (Cw.draw [2, 7, 8, 9, 10] [(0, 0), (1, 0), (2, 0), (3, 0), (4, 0), (5, 0), (6, 0), (7, 0), (8, 0), (9, 0), (10, 1), (11, 0), (12, 0), (13, 0), (14, 0), (15, 0), (16, 0), (17, 1), (18, 0), (19, 3), (20, 2), (21, 0)] mixed (by kernel_rfl) fun dw B => ?_))
     have h := ck.n B
     have aa := (Q.up f).up B
     have ac := (ap.up f).up B
     refine Dv a rfl (Dv d rfl (Di rfl (Di rfl ?_)))
     obtain ⟨dx, bb, hm⟩ := ob hm
     have r95 := (e.ul h).cutV bb
     refine Mw.p rfl rfl (fun _ => R.sl (e.ul h) bb rfl (.inr rfl) (.inr rfl)) (Dv k rfl (Di rfl (Dv y rfl (Di rfl ?_))))
     obtain ⟨dy, ar, hm⟩ := ob hm
     refine Mw.p rfl rfl (fun _ => R.ix (α := Int) aa.rd ar rfl rfl rfl) (Mw.q rfl rfl (fun _ c => R.ld rfl rfl (zam (aa.rd.at_ ar).1 rfl (aa.rd.at_ ar).int c)) ?_)
     obtain ⟨dz, bc, hm⟩ := ob hm
     have r102 := (F.ul h).cutV bc
     refine Mw.p rfl rfl (fun _ => R.sl (F.ul h) bc rfl (.inr rfl) (.inr rfl)) (Dv x rfl (Di rfl (Dv I rfl (Di rfl ?_))))
     obtain ⟨d0, au, hm⟩ := ob hm
     refine Mw.p rfl rfl (fun _ => R.ix (α := Int) ac.rd au rfl rfl rfl) (Mw.q rfl rfl (fun _ c => R.ld rfl rfl (zam (ac.rd.at_ au).1 rfl (ac.rd.at_ au).int c)) ?_)
     obtain ⟨d1, be, hm⟩ := ob hm
     have r109 := (G.ul h).cutV be
     refine Mw.p rfl rfl (fun _ => R.sl (G.ul h) be rfl (.inr rfl) (.inr rfl)) ?_
     obtain ⟨C, cl, hm⟩ := ob hm
     refine Mw.l rfl rfl (T.call rfl (p156 (k0 := 7) (k1 := 8) (k2 := 9) (k3 := 10) r95 r102 r109 cl)) ?_
     rintro _ _ ⟨d2, rfl, i, ⟨d3, d4, d5, d6, rfl, cm, co, cp, cq⟩⟩
     have ct := h.n i
     obtain ⟨cu, cv, hm⟩ := ob hm
     refine Mw.t rfl rfl (T.call rfl (p155 (K := [0]) (k0 := 11) (c0 := 2) (c1 := 7) (c2 := 8) (c3 := 9) (c4 := 10) (x1 := (Vm.Part.mk C.Clash C.Lines C.Old C.One C.Two)) (((ao.up f).up B).up i) cm co cp cq rfl cv)) ?_
     rintro av _ ⟨aw, rfl, D, ⟨_, rfl, bg⟩⟩
     have ax := ct.t D
     refine ⟨⟨_, rfl, ((i.sub (M := [2, 7, 8, 9, 10]) rfl).trans (D.sub (M := [2, 7, 8, 9, 10]) rfl))⟩, ?_⟩
     refine Hv av rfl (Mw.nil ?_)
     obtain ⟨cw, cx, hm⟩ := za1 hm
     refine Cw.join 68 79 [7] (fun l w => ∃ ae af ah, CW.w ah = w ∧ Le [11, 12, 13, 14, 15, 16] aw ah ∧ l = [af] ∧ Ow ah 11 [] [af] ae ∧ cw ae = some r) ?_ ?_
     ·rintro _ _ σ ⟨ae, af, ah, rfl, ay, rfl, cy, hm⟩
      rw [cx] at hm
      have bh := ((aa.up i).up D).up ay
      have bi := ((ac.up i).up D).up ay
      refine sr (mi rfl (Lw.add rfl (Ni rfl (sr (mv y rfl (mi rfl ?_))))))
      obtain ⟨cz, bj, hm⟩ := ob hm
      refine Lw.r rfl (R.ix (α := Int) bh.rd bj rfl rfl rfl) (Lw.r rfl (R.ld rfl rfl (bh.rd.at_ bj).int) (Lw.add rfl (Ni rfl (rg (mv I rfl (mi rfl ?_))))))
      obtain ⟨c5, bk, hm⟩ := ob hm
      refine Lw.r rfl (R.ix (α := Int) bi.rd bk rfl rfl rfl) (Lw.r rfl (R.ld rfl rfl (bi.rd.at_ bk).int) (Lw.add rfl (Ni rfl ?_)))
      obtain ⟨c6, c7, c8, c9⟩ := cy.dyeO 2
      exact (ag) ⟨ae, w64 (z + 1), w64 (cz + 1), w64 (c5 + 1), af, c6, c7, (((((f.j B).j i).j D).j ay).j c8).w, rfl, c9, hm⟩
     ·refine sr (mi rfl (mv d rfl (Lw.ln x0 (e.ul ax) rfl (Lw.lt rfl (nl (cn hm (fun hm => ?_) fun hm => ?_))))))
      ·refine rg (mv av rfl (mv d rfl (mi rfl ?_)))
       obtain ⟨az, bl, hm⟩ := ob hm
       refine Lw.r rfl (R.ix (α := Str) (e.ul ax) bl rfl rfl rfl) (Lw.r rfl (R.ld rfl rfl ((e.ul ax).at_ bl).str) (Lw.t rfl (T.bsS (α := Str) (xs := [az]) 12 [] (W := aw) [vS az] (Each.cons ((rdS _)) Each.nil) rfl) ?_))
       rintro bm _ ⟨d7, rfl, bn, bp⟩
       refine Lw.r rfl (R.bd (zs := [vB false, .slice none 0 0, .slice none 0 0, .slice none 0 0, .slice none 0 0]) (cs := [vB false, bm, .slice none 0 0, .slice none 0 0, .slice none 0 0]) [(1, bm)] rfl rfl rfl (zaD bp.oc rfl zcU)) (cr hm (fun _ => p155 (K := [0]) (k0 := 16) (c0 := 11) (c1 := 12) (c2 := 13) (c3 := 14) (c4 := 15) (x1 := (Vm.Part.mk false ([az] : List Str) ([] : List Str) ([] : List Str) ([] : List Str))) (bg.up bn) bp (owN 13 []) (owN 14 []) (owN 15 []) rfl) ?_)
       rintro da bq d8 hm db ⟨_, rfl, dc⟩
       refine Nv bq rfl ?_
       obtain ⟨dd, de, df, dg⟩ := dc.dyeO 11
       exact (ag) ⟨da, bq, dd, de, ((bn.j db).j df).w, rfl, dg, hm⟩
      ·exact sk ((ag) ⟨cu, av, aw, rfl, Le.refl _ _, rfl, bg, hm⟩)
   ·refine rg (mv y rfl (mi rfl ?_))
    obtain ⟨d9, br, hm⟩ := ob hm
    refine Lw.r rfl (R.ix (α := Int) Q.rd br rfl rfl rfl) (Lw.r rfl (R.ld rfl rfl (Q.rd.at_ br).int) (Lw.lt rfl (mb rfl (bs hm (fun E hm => ?_) fun E hm => ?_))))
    ·exact psk 5 E rfl (Pb E rfl (nl ((ag) ⟨true, b, rfl, Le.refl _ _, rfl, hm⟩)))
    ·refine wak 5 E (mv I rfl (mi rfl ?_))
     obtain ⟨dh, bu, hm⟩ := ob hm
     exact Lw.r rfl (R.ix (α := Int) ap.rd bu rfl rfl rfl) (Lw.r rfl (R.ld rfl rfl (ap.rd.at_ bu).int) (Lw.lt rfl (Pb E rfl (nl ((ag) ⟨decide ((dh : Int) < (0 : Int)), b, rfl, Le.refl _ _, rfl, hm⟩)))))
 ·refine Cw.exit ?_
  rw [cd] at hm
  refine sr (mv a rfl (Nv a rfl ?_))
  cases hm
  exact Cw.ret (zhh rfl (Res.mk ba ⟨a, rfl, ao.s.sub rfl rfl⟩))
theorem p154 {x0 b x1 d x2 f k0 r} (h : Rd W K [b] x0) (i : Rd W K [d] x1) (k : Rd W K [f] x2) (hm : Vm.zfO x0 x1 x2 = some r) : Q1 154 [b, d, f] W [] fun W' v => ∃ a, v = a ∧ Ow W' k0 [] [a] r :=
 (c154 (h.view _) (i.view _) (k.view _) hm).ad (fk k0) fun _ _ ⟨a, e, x⟩ => ⟨a, e, x.back (zhf _)⟩
theorem c153 {x0 b r} (L : Rd W0 [0] [b] x0) (hm : Vm.zeA x0 = some r) : Q0 153 [b] W0 fun Wf v => ∃ A, v = .tuple [A, vB r.2].toArray ∧ OwS Wf LL [] [A] r.1 := by
 unfold Vm.zeA at hm
 refine zap.of Tryz.func153 rfl rfl rfl rfl (sr (Gv (.slice none 0 0) rfl (Nb rfl (sr (Lw.t rfl (T.lit0 (α := Str) 2 []) ?_)))))
 rintro B _ ⟨C, rfl, M, N⟩
 have O := M.o
 refine Nv B rfl (ssr (Ni rfl (Cw.block ?_)))
 obtain ⟨P, Q, hm⟩ := za1 hm
 refine Cw.loop 7 24 [2, 3, 4, 5] (fun m l w => ∃ f h x i k a d, CW.w d = w ∧ Le [2] C d ∧ l = [k, vB h, a, vI i] ∧ Ow d 3 [] [k] f ∧ Ow d 2 [] [a] x ∧ Vm.zb0 x0 P m f h x i = some r) _ ⟨([] : List Str), false, ([] : List Str), 0, .slice none 0 0, B, C, rfl, Le.refl _ _, rfl, owN 3 [], N, hm⟩ ?_
 rintro (_ | Y) _ _ σ ⟨f, h, x, i, k, a, d, rfl, D, rfl, S, y, hm⟩
 ·cases hm
 unfold Vm.zb0 at hm
 have z := O.t D
 refine ssr ?_
 have e := L.ul z
 refine mi rfl (mv b rfl (Lw.ln x0 e rfl (Lw.lt rfl (nl (cn hm (fun hm => ?_) fun hm => ?_)))))
 ·refine sk (Cw.seq (Cw.block (ssr (mv b rfl (mi rfl ?_)))))
  obtain ⟨Z, E, hm⟩ := ob hm
  refine Lw.r rfl (R.ix (α := Part) e E rfl rfl rfl) (Lw.fa rfl (Lw.r rfl (R.ld rfl rfl (Part.at0 (e.at_ E)).bool) (nl (cn hm (fun hm => ?_) fun hm => ?_))))
  ·refine sr (Gv (.slice none 0 0) rfl (Nb rfl ?_))
   cases hm
   exact Cw.ret (zis rfl rfl (Res.mk z ⟨.slice none 0 0, rfl, (zmA []).sub rfl rfl⟩))
  ·refine sk (rg (mv a rfl (mv b rfl (mi rfl ?_))))
   obtain ⟨aa, F, hm⟩ := ob hm
   refine Lw.r rfl (R.ix (α := Part) e F rfl rfl rfl) (Lw.fa rfl ?_)
   obtain ⟨ac, c23, r24⟩ := (Part.at1 (e.at_ F)).cell rfl
   refine Lw.r rfl (R.ld rfl rfl c23) ?_
   obtain ⟨U, V, hm⟩ := ob hm
   refine Lw.t rfl (T.appP (α := Str) y r24 rfl rfl V) ?_
   rintro G _ ⟨W, rfl, H, X⟩
   exact Nv G rfl (rg (mi rfl (Lw.add rfl (Ni rfl ((agm) ⟨f, h, U, w64 (i + 1), k, G, W, rfl, (D.j H).w, rfl, (S.up H), X, hm⟩)))))
 ·refine Cw.exit ?_
  rw [Q] at hm
  refine ssr (mv a rfl (ca hm (fun _ => p66 (K := [2]) y.rd) fun ae af hm I => ?_))
  have J := z.n I
  refine Lw.r rfl (R.not rfl) (nl (cn hm (fun hm => ?_) fun hm => ?_))
  ·refine sr (Gv (.slice none 0 0) rfl (Nb rfl ?_))
   cases hm
   exact Cw.ret (zis rfl rfl (Res.mk J ⟨.slice none 0 0, rfl, (zmA []).sub rfl rfl⟩))
  ·refine sk (sr (mv a rfl (Gv a rfl (Nb rfl ?_))))
   cases hm
   exact Cw.ret (zis rfl rfl (Res.mk J ⟨a, rfl, (y.up I).s.sub rfl rfl⟩))
theorem p153 {x0 b k0 r} (d : Rd W K [b] x0) (hm : Vm.zeA x0 = some r) : Q1 153 [b] W [] fun W' v => ∃ a, v = .tuple [a, vB r.2].toArray ∧ Ow W' k0 [] [a] r.1 :=
 (c153 (d.view _) hm).ad (fk k0) fun _ _ ⟨a, e, f⟩ => ⟨a, e, f.back (zhf _)⟩
theorem c148 {x0 H x1 I x2 J x3 r} (X : Rd W0 [0] [H] x0) (Y : Rd W0 [0] [I] x1) (Z : Rd W0 [0] [J] x2) (hm : Vm.ze9 x0 x1 x2 x3 = some r) : Q0 148 [H, I, J, vS x3] W0 fun Wf v => ∃ V, v = .tuple [V, vB r.2.1, vI r.2.2].toArray ∧ Rd Wf [0] [V] r.1 := by
 unfold Vm.ze9 at hm
 refine zap.of Tryz.func148 rfl rfl rfl rfl (sr (Gv (.slice none 0 0) rfl (Gb rfl (Ni rfl (sr (mv H rfl (ms rfl (cr hm (fun _ => p74 X) ?_))))))))
 rintro D _ W3 hm l3 ⟨d, rfl, ac⟩
 have z := ac.sub (M := [0]) rfl
 have y := l3.o
 refine mv (.tuple [d, vB D.2].toArray) rfl (Lw.r rfl (R.ext (vs := [d, vB D.2]) (v := d) rfl rfl) (Lw.r rfl (R.ext (vs := [d, vB D.2]) (v := vB D.2) rfl rfl) (Gv d rfl (Nb rfl (sr (mv I rfl (ms rfl (cr hm (fun _ => p74 (Y.ul y)) ?_))))))))
 rintro E _ W9 hm l9 ⟨f, rfl, af⟩
 have F := af.sub (M := [0]) rfl
 have e := l9.o
 refine mv (.tuple [f, vB E.2].toArray) rfl (Lw.r rfl (R.ext (vs := [f, vB E.2]) (v := f) rfl rfl) (Lw.r rfl (R.ext (vs := [f, vB E.2]) (v := vB E.2) rfl rfl) (Gv f rfl (Nb rfl (sr (mv J rfl (ms rfl (cr hm (fun _ => p74 (Z.ul (y.trans e))) ?_))))))))
 rintro A _ ah hm ai ⟨h, rfl, aj⟩
 have G := aj.sub (M := [0]) rfl
 have a := ai.o
 refine mv (.tuple [h, vB A.2].toArray) rfl (Lw.r rfl (R.ext (vs := [h, vB A.2]) (v := h) rfl rfl) (Lw.r rfl (R.ext (vs := [h, vB A.2]) (v := vB A.2) rfl rfl) (Gv h rfl (Nb rfl (Cw.seq (Cw.block ?_))))))
 obtain ⟨ak, am, hm⟩ := za1 hm
 refine Cw.join 37 47 [37] (fun l w => ∃ L N, CW.w N = w ∧ Le [] ah N ∧ l = [vB L] ∧ ak L = some r) ?_ ?_
 ·rintro _ _ σ ⟨L, N, rfl, an, rfl, hm⟩
  rw [am] at hm
  have b := an.o
  refine cn hm (fun hm => ?_) fun hm => ?_
  ·refine sr (mv h rfl (mb rfl (Gv h rfl (Gb rfl (Ni rfl ?_)))))
   cases hm
   exact Cw.ret (zs2 rfl rfl rfl (Res.mk (((y.trans e).trans a).trans b) ⟨h, rfl, (G.ul b)⟩))
  ·refine sr (mv h rfl (mb rfl (mv d rfl (mb rfl (ca hm (fun _ => p152 (G.ul b) (z.ul ((e.trans a).trans b))) fun bc O hm ao => ?_)))))
   have i := ao.o
   refine Nb rfl (cn hm (fun hm => ?_) fun hm => ?_)
   ·refine sr (mv f rfl (mb rfl (Gv f rfl (Gb rfl (Ni rfl ?_)))))
    cases hm
    exact Cw.ret (zs2 rfl rfl rfl (Res.mk ((((y.trans e).trans a).trans b).trans i) ⟨f, rfl, (F.ul ((a.trans b).trans i))⟩))
   ·obtain ⟨ap, aq, hm⟩ := za1 hm
    refine Cw.join 58 64 [58] (fun l w => ∃ P Q, CW.w Q = w ∧ Le [] O Q ∧ l = [vB P] ∧ ap P = some r) ?_ ?_
    ·rintro _ _ σ ⟨P, Q, rfl, ar, rfl, hm⟩
     rw [aq] at hm
     have k := ar.o
     refine cn hm (fun hm => ?_) fun hm => ?_
     ·refine sr (mv d rfl (mb rfl (Gv d rfl (Gb rfl (Ni rfl ?_)))))
      cases hm
      exact Cw.ret (zs2 rfl rfl rfl (Res.mk (((((y.trans e).trans a).trans b).trans i).trans k) ⟨d, rfl, (z.ul ((((e.trans a).trans b).trans i).trans k))⟩))
     ·refine sr (mb rfl (Lw.r rfl (R.not rfl) (Nb rfl (cn hm (fun hm => ?_) fun hm => ?_))))
      ·refine sr (Gv (.slice none 0 0) rfl (Gb rfl (Ni rfl ?_)))
       cases hm
       exact Cw.ret (zs2 rfl rfl rfl (Res.mk (((((y.trans e).trans a).trans b).trans i).trans k) ⟨.slice none 0 0, rfl, (rdN (K := [0]))⟩))
      ·refine sk (sr (mv d rfl (mv f rfl (mv h rfl (cr hm (fun _ => p154 (k0 := 2) (z.ul ((((e.trans a).trans b).trans i).trans k)) (F.ul (((a.trans b).trans i).trans k)) (G.ul ((b.trans i).trans k))) ?_)))))
       rintro be bg bh hm au ⟨_, rfl, av⟩
       have S := au.o
       refine cr hm (fun _ => p153 (K := [2]) (k0 := 3) av.rd) ?_
       rintro B _ bi hm aw ⟨x, rfl, ax⟩
       have T := aw.o
       refine mv (.tuple [x, vB B.2].toArray) rfl (Lw.r rfl (R.ext (vs := [x, vB B.2]) (v := x) rfl rfl) (Lw.r rfl (R.ext (vs := [x, vB B.2]) (v := vB B.2) rfl rfl) (Gv x rfl (Nb rfl (ssr (mb rfl (Lw.r rfl (R.not rfl) (nl (cn hm (fun hm => ?_) fun hm => ?_)))))))))
       ·refine sr (mv d rfl (Gv d rfl (Gb rfl (Ni rfl ?_))))
        cases hm
        exact Cw.ret (zs2 rfl rfl rfl (Res.mk (((((((y.trans e).trans a).trans b).trans i).trans k).trans S).trans T) ⟨d, rfl, (z.ul ((((((e.trans a).trans b).trans i).trans k).trans S).trans T))⟩))
       ·refine sk (sr (mv x rfl (Gv x rfl (Gb rfl (Ni rfl ?_)))))
        obtain ⟨ay, az, a0, a1⟩ := zgW _ 3
        have a2 : Rd (α := List Str) ay [0] [x] B.1 := by rw [a1]; exact (ax.rd.dye 3).sub (M := [0]) rfl
        have a3 := (((((((y.trans e).trans a).trans b).trans i).trans k).trans S).trans T).t a0
        cases hm
        rw [← az]
        exact Cw.ret (zs2 rfl rfl rfl (Res.mk a3 ⟨x, rfl, a2⟩))
    ·refine rg (mb rfl (Lw.r rfl (R.not rfl) (mb rfl (bs hm (fun C hm => ?_) fun C hm => ?_))))
     ·exact psk 2 C rfl (Pb C rfl (Nb rfl ((ag) ⟨true, O, rfl, Le.refl _ _, rfl, hm⟩)))
     ·exact wak 2 C (mb rfl (Lw.r rfl (R.not rfl) (Pb C rfl (Nb rfl ((ag) ⟨(!A.2), O, rfl, Le.refl _ _, rfl, hm⟩)))))
 ·refine sr (mv f rfl (mb rfl (mv d rfl (mb rfl (ca hm (fun _ => p152 (F.ul a) (z.ul (e.trans a))) fun a4 a6 hm U => ?_)))))
  have W := U.o
  refine Nb rfl (cn hm (fun hm => ?_) fun hm => ?_)
  ·exact sk ((ag) ⟨a4, a6, rfl, U, rfl, hm⟩)
  ·exact rg (mv f rfl (mb rfl (mv h rfl (mb rfl (ca hm (fun _ => p152 (F.ul (a.trans W)) (G.ul W)) fun a7 a8 hm a9 => Nb rfl ((ag) ⟨a7, a8, rfl, (U.j a9).w, rfl, hm⟩))))))
theorem p148 {x0 b x1 d x2 f x3 r} (h : Rd W K [b] x0) (i : Rd W K [d] x1) (k : Rd W K [f] x2) (hm : Vm.ze9 x0 x1 x2 x3 = some r) : Q1 148 [b, d, f, vS x3] W [] fun W' v => ∃ a, v = .tuple [a, vB r.2.1, vI r.2.2].toArray ∧ Rd W' (0 :: K) [a] r.1 :=
 (c148 (h.view _) (i.view _) (k.view _) hm).ad (fk 0) fun _ _ ⟨a, e, x⟩ => ⟨a, e, x.back rfl⟩
theorem c140 {x0 G x1 H x2 I r} (h0 : Rd W0 [0] [G] x0) (h1 : Rd W0 [0] [H] x1) (h2 : Rd W0 [0] [I] x2) (hm : Vm.zfP x0 x1 x2 = some r) : Q0 140 [G, H, I] W0 fun Wf v => ∃ u0 u1, v = .tuple [u0, u1].toArray ∧ OwS Wf [31] [] [u0] r.1 ∧ OwS Wf [32] [] [u1] r.2 := by
 unfold Vm.zfP at hm
 refine zap.of Tryz.func140 rfl rfl rfl rfl (sr (Gv (.slice none 0 0) rfl (Nv (.slice none 0 0) rfl (sr (Lw.t rfl (T.lit0 (α := File) 2 []) ?_)))))
 rintro v1 _ ⟨W1, rfl, l1, o1⟩
 have a2 := l1.o
 refine Nv v1 rfl (sr (Lw.t rfl (T.lit0 (α := Clash) 3 []) ?_))
 rintro v3 _ ⟨W3, rfl, l3, o3⟩
 have L := a2.n l3
 refine Nv v3 rfl (sr (mv G rfl (mv H rfl (mv I rfl (cr hm (fun _ => p147 (h0.ul L) (h1.ul L) (h2.ul L)) ?_)))))
 rintro z9 y a0 hm ac ⟨_, rfl, bu⟩
 have N := bu.sub (M := [0]) rfl
 have O := L.n ac
 refine Nv y rfl (ssr (Ni rfl (Cw.block ?_)))
 obtain ⟨bv, bw, hm⟩ := za1 hm
 refine Cw.loop 21 61 [8, 9, 11, 12, 13, 14] (fun m l w => ∃ P Q S d e a1 a3 a5 f, CW.w f = w ∧ Le [2, 3, 4] a0 f ∧ l = [d, e, vI S, a1, a3, a5] ∧ Ow f 2 [] [d] P ∧ Ow f 3 [] [e] Q ∧ Vm.zc6 x0 x1 x2 z9 bv m P Q S = some r) _ ⟨([] : List File), ([] : List Clash), 0, v1, v3, undef, undef, undef, a0, rfl, Le.refl _ _, rfl, ((o1.up l3).up ac), (o3.up ac), hm⟩ ?_
 rintro (_ | c0) _ _ σ ⟨P, Q, S, d, e, a1, a3, a5, f, rfl, a6, rfl, a7, ae, hm⟩
 ·cases hm
 unfold Vm.zc6 at hm
 have h := a6.s
 refine ssr ?_
 have af := N.ul h
 refine mi rfl (mv y rfl (Lw.ln z9 af rfl (Lw.lt rfl (nl (cn hm (fun hm => ?_) fun hm => ?_)))))
 ·refine sk ?_
  obtain ⟨bz, b0, hm⟩ := za1 hm
  refine Cw.join 27 61 [8, 9, 12, 13, 14] (fun l w => ∃ U V W X ah ai aj i, CW.w i = w ∧ Le [2, 3, 4] f i ∧ l = [W, X, ah, ai, aj] ∧ Ow i 2 [] [W] U ∧ Ow i 3 [] [X] V ∧ bz U V = some r) ?_ ?_
  ·rintro _ _ σ ⟨U, V, W, X, ah, ai, aj, i, rfl, b1, rfl, b2, b3, hm⟩
   rw [b0] at hm
   exact rg (mi rfl (Lw.add rfl (Ni rfl ((agm) ⟨U, V, w64 (S + 1), W, X, ah, ai, aj, i, rfl, (a6.j b1).w, rfl, b2, b3, hm⟩))))
  ·refine Cw.block (sr (mv G rfl (mv H rfl (mv I rfl (mv y rfl (mi rfl ?_))))))
   obtain ⟨c1, a8, hm⟩ := ob hm
   refine Lw.r rfl (R.ix (α := Str) af a8 rfl rfl rfl) (Lw.r rfl (R.ld rfl rfl (af.at_ a8).str) (cr hm (fun _ => p148 (h0.ul (O.trans h)) (h1.ul (O.trans h)) (h2.ul (O.trans h))) ?_))
   rintro a _ a9 hm k ⟨b, rfl, b4⟩
   have b5 := b4.sub (M := [0]) rfl
   have ak := h.n k
   refine mv (.tuple [b, vB a.2.1, vI a.2.2].toArray) rfl (Lw.r rfl (R.ext (vs := [b, vB a.2.1, vI a.2.2]) (v := b) rfl rfl) (Lw.r rfl (R.ext (vs := [b, vB a.2.1, vI a.2.2]) (v := vB a.2.1) rfl rfl) (Lw.r rfl (R.ext (vs := [b, vB a.2.1, vI a.2.2]) (v := vI a.2.2) rfl rfl) (Gv b rfl (Gb rfl (Ni rfl ?_))))))
   obtain ⟨b6, b7, hm⟩ := za1 hm
   refine Cw.join 39 49 [9] (fun l w => ∃ z A B, CW.w B = w ∧ Le [3] a9 B ∧ l = [A] ∧ Ow B 3 [] [A] z ∧ b6 z = some r) ?_ ?_
   ·rintro _ _ σ ⟨z, A, B, rfl, Y, rfl, ba, hm⟩
    rw [b7] at hm
    have bb := Y.s
    have bc := (a7.up k).up Y
    refine sr (mb rfl (nl (cn hm (fun hm => ?_) fun hm => ?_)))
    ·refine Cw.draw [2, 4] [(0, 0), (1, 0), (2, 0), (3, 0), (4, 1), (6, 0), (5, 2), (7, 2), (8, 0), (9, 3), (10, 2), (11, 0)] mixed (by kernel_rfl) fun c2 Z => ?_
     have be := Z.o
     refine Dv d rfl (Dv y rfl (Di rfl ?_))
     obtain ⟨C, am, hm⟩ := ob hm
     have an := N.ul ((ak.trans bb).trans be)
     refine Mw.p rfl rfl (fun _ => R.ix (α := Str) an am rfl rfl rfl) (Mw.q rfl rfl (fun _ c => R.ld rfl rfl (zam (an.at_ am).1 rfl (an.at_ am).str c)) (Dv b rfl (Mw.t rfl rfl (T.lit0 (α := Str) 4 []) ?_)))
     rintro c3 _ ⟨c4, rfl, x, b8⟩
     have b9 := (bb.trans be).n x
     refine m0 x fun cb => ?_
     obtain ⟨cc, cd, hm⟩ := ob hm
     refine Mw.t rfl rfl (T.appP (α := Str) b8 (b5.ul b9) rfl rfl cd) ?_
     rintro aa _ ⟨c5, rfl, D, bg⟩
     refine mc cb D fun c6 => Mw.p rfl rfl (fun _ => R.bd (zs := [vS ([] : Str), .slice none 0 0]) (cs := [vS C, aa]) [(0, vS C), (1, aa)] rfl rfl rfl (zaD rfl rfl (zaD bg.oc rfl zcU))) (Mw.l rfl rfl (T.bs 5 [.agg [vS C, aa].toArray] (cs := [vS C, aa]) rfl rfl (bsA rfl)) ?_)
     rintro _ _ ⟨c7, c8, rfl, rfl, E, ce⟩
     obtain ⟨cf, cg, hm⟩ := ob hm
     refine Mw.t rfl rfl (T.app1 (α := File) (J := [4]) (K' := []) ((((bc.up Z).up x).up D).up E) ce (File.own C cc (bg.up E).s) rfl rfl cg) ?_
     rintro bh _ ⟨ch, rfl, ao, ci⟩
     refine ⟨⟨_, rfl, ((x.sub (M := [2, 4]) rfl).trans ((D.sub (M := [2, 4]) rfl).trans ((E.sub (M := [2, 4]) rfl).trans (ao.sub (M := [2, 4]) rfl))))⟩, ?_⟩
     exact Hv bh rfl (Mw.nil ((ag) ⟨cf, z, bh, A, b, vB a.2.1, vI a.2.2, ch, rfl, ((((((k.j Y).j Z).j x).j D).j E).j ao).w, rfl, ci, (((((ba.up Z).up x).up D).up E).up ao), hm⟩))
    ·exact sk ((ag) ⟨P, z, d, A, b, vB a.2.1, vI a.2.2, B, rfl, (k.j Y).w, rfl, bc, ba, hm⟩)
   ·refine sr (mi rfl (Lw.gt rfl (nl (cn hm (fun hm => ?_) fun hm => ?_))))
    ·refine rg (mv e rfl (mv y rfl (mi rfl ?_)))
     obtain ⟨F, bi, hm⟩ := ob hm
     refine Lw.r rfl (R.ix (α := Str) (N.ul ak) bi rfl rfl rfl) (Lw.r rfl (R.ld rfl rfl ((N.ul ak).at_ bi).str) (mi rfl (Lw.r rfl (R.bd (zs := [vS ([] : Str), vI 0]) (cs := [vS F, vI a.2.2]) [(0, vS F), (1, vI a.2.2)] rfl rfl rfl (zaD rfl rfl (zaD rfl rfl zcU))) (Lw.t rfl (T.bs 6 [.agg [vS F, vI a.2.2].toArray] (cs := [vS F, vI a.2.2]) rfl rfl (bsA rfl)) ?_))))
     rintro _ _ ⟨c9, da, rfl, rfl, bj, cj⟩
     obtain ⟨ck, cl, hm⟩ := ob hm
     refine Lw.t rfl (T.app1S (α := Clash) (K' := []) ((ae.up k).up bj) cj (Clash.rd (K := []) F a.2.2) rfl rfl cl) ?_
     rintro bk _ ⟨cm, rfl, co, cp⟩
     exact Nv bk rfl ((ag) ⟨ck, bk, cm, rfl, (bj.j co).w, rfl, cp, hm⟩)
    ·exact sk ((ag) ⟨Q, e, a9, rfl, Le.refl _ _, rfl, (ae.up k), hm⟩)
 ·refine Cw.exit ?_
  rw [bw] at hm
  refine sr (mv d rfl (mv e rfl (Gv d rfl (Nv e rfl ?_))))
  obtain ⟨db, cq, bl, ct⟩ := a7.dyeO 31
  have cu := (O.trans h).t bl
  obtain ⟨dc, cv, bm, cw⟩ := (ae.up bl).dyeO 32
  have cx := cu.t bm
  cases hm
  rw [← cv.trans (cq)]
  exact Cw.ret (zis rfl rfl (Res.mk cx ⟨d, e, rfl, (ct.up bm).s, cw.s⟩))
theorem p140 {x0 d x1 f x2 h k0 k1 r} (i : Rd W K [d] x0) (k : Rd W K [f] x1) (x : Rd W K [h] x2) (hm : Vm.zfP x0 x1 x2 = some r) : Q1 140 [d, f, h] W [] fun W' v => ∃ a b, v = .tuple [a, b].toArray ∧ Ow W' k0 [] [a] r.1 ∧ Ow W' k1 [] [b] r.2 :=
 zap.adJ (J := []) (fun c => bif Nat.beq c 0 then 0 else bif Nat.beq c 31 then k0 else bif Nat.beq c 32 then k1 else 0) (c140 (i.view _) (k.view _) (x.view _) hm) fun _ _ ⟨a, b, e, y, z⟩ => ⟨a, b, e, y.one1.backN rfl, z.one1.backN rfl⟩
theorem c134 {x0 e x1 f x2 h r} (A : Rd W0 [0] [e] x0) (P : Rd W0 [0] [f] x1) (Q : Rd W0 [0] [h] x2) (hm : Vm.zea x0 x1 x2 = some r) : Q0 134 [e, f, h] W0 fun Wf v => ∃ B C, v = .tuple [B, C].toArray ∧ OwS Wf [31] [] [B] r.1 ∧ OwS Wf [32] [] [C] r.2 := by
 unfold Vm.zea at hm
 refine zap.of Tryz.func134 rfl rfl rfl rfl (sr (Gv (.slice none 0 0) rfl (Nv (.slice none 0 0) rfl (sr (mv e rfl (mv f rfl (mv h rfl (cr hm (fun _ => p140 (k0 := 2) (k1 := 3) A P Q) ?_))))))))
 rintro S _ D hm U ⟨a, b, rfl, E, F⟩
 have V := U.o
 refine mv (.tuple [a, b].toArray) rfl (Lw.r rfl (R.ext (vs := [a, b]) (v := a) rfl rfl) (Lw.r rfl (R.ext (vs := [a, b]) (v := b) rfl rfl) (Gv a rfl (Nv b rfl (Cw.seq ?_)))))
 obtain ⟨W, X, hm⟩ := za1 hm
 refine Cw.join 17 24 [24] (fun l w => ∃ i k, CW.w k = w ∧ Le [] D k ∧ l = [vB i] ∧ W i = some r) ?_ ?_
 ·rintro _ _ σ ⟨i, k, rfl, y, rfl, hm⟩
  rw [X] at hm
  have z := V.n y
  refine cn hm (fun hm => ?_) fun hm => ?_
  ·refine sr (mv e rfl (cr hm (fun _ => p97 (k0 := 4) (A.ul z)) ?_))
   rintro ay G az hm Y ⟨_, rfl, Z⟩
   have aa := z.n Y
   refine Lw.r rfl (R.bd (zs := [vS ([] : Str), vI 0]) (cs := [vS ([] : Str), vI 4]) [(1, vI 4)] rfl rfl rfl (zaD rfl rfl zcU)) (Lw.t rfl (T.bsO (α := Clash) (J := []) (xs := [Vm.Clash.mk ([] : Str) 4]) 5 [.agg [vS ([] : Str), vI 4].toArray] (bsL [[vS ([] : Str), vI 4]] (zwW rfl zwV) (OwL.cons (x := (Vm.Clash.mk ([] : Str) 4)) (OwS.atm (K := []) (Clash.rd (K := []) ([] : Str) 4)) OwL.nil)) rfl) ?_)
   rintro H _ ⟨a0, rfl, I, ac⟩
   have ae := aa.n I
   refine Gv G rfl (Nv H rfl ?_)
   obtain ⟨a1, af, L, ah⟩ := (Z.up I).dyeO 31
   have ai := ae.t L
   obtain ⟨a2, aj, M, ak⟩ := (ac.up L).dyeO 32
   have am := ai.t M
   cases hm
   rw [← aj.trans (af)]
   exact Cw.ret (zis rfl rfl (Res.mk am ⟨G, H, rfl, (ah.up M).s, ak.s⟩))
  ·refine sk (sr (mv a rfl (mv b rfl (Gv a rfl (Nv b rfl ?_)))))
   obtain ⟨a3, an, N, ao⟩ := (E.up y).dyeO 31
   have ap := z.t N
   obtain ⟨a5, aq, O, ar⟩ := ((F.up y).up N).dyeO 32
   have au := ap.t O
   cases hm
   rw [← aq.trans (an)]
   exact Cw.ret (zis rfl rfl (Res.mk au ⟨a, b, rfl, (ao.up O).s, ar.s⟩))
 ·refine rg (mv b rfl (Lw.ln S.2 F.rd rfl (Lw.eq rfl (mb rfl (bs hm (fun d hm => ?_) fun d hm => ?_)))))
  ·exact wak 3 d (mv a rfl (ca hm (fun _ => p44 (K := [2]) E.rd) fun av aw hm ax => Lw.r rfl (R.not rfl) (Pb d rfl (nl ((ag) ⟨(!av), aw, rfl, ax, rfl, hm⟩)))))
  ·exact psk 3 d rfl (Pb d rfl (nl ((ag) ⟨false, D, rfl, Le.refl _ _, rfl, hm⟩)))
theorem p134 {x0 d x1 f x2 h k0 k1 r} (i : Rd W K [d] x0) (k : Rd W K [f] x1) (x : Rd W K [h] x2) (hm : Vm.zea x0 x1 x2 = some r) : Q1 134 [d, f, h] W [] fun W' v => ∃ a b, v = .tuple [a, b].toArray ∧ Ow W' k0 [] [a] r.1 ∧ Ow W' k1 [] [b] r.2 :=
 zap.adJ (J := []) (fun c => bif Nat.beq c 0 then 0 else bif Nat.beq c 31 then k0 else bif Nat.beq c 32 then k1 else 0) (c134 (i.view _) (k.view _) (x.view _) hm) fun _ _ ⟨a, b, e, y, z⟩ => ⟨a, b, e, y.one1.backN rfl, z.one1.backN rfl⟩
theorem c123 {x0 k x x1 x2 x3 r} (h0 : Rd W0 [0] [k, x] x0) (hm : Vm.zc7 x0 x1 x2 x3 = some r) : Q0 123 [.agg [k, x].toArray, vS x1, vS x2, vI x3] W0 fun Wf v => ∃ a0 a1, v = .tuple [.agg [a0, a1].toArray, vI r.2].toArray ∧ Rd Wf [0] [a0] r.1.Commits ∧ Rd Wf [0] [a1] r.1.Heads := by
 unfold Vm.zc7 at hm
 obtain ⟨c9, da, a3, a, b⟩ := Repo.split h0
 simp only [List.cons.injEq, and_true, true_and] at a3
 obtain ⟨rfl, rfl⟩ := a3
 refine zap.of Tryz.func123 rfl rfl rfl rfl (sr (bo 2 rfl fun g1 W1 l1 b1 => ?_))
 have a2 := l1.o
 refine al 3 [.slice none 0 0, .slice none 0 0] fun g3 W3 O b3 => ?_
 have P := a2.n O
 refine Ni rfl (sr (la (b1.up O) (ms rfl (ca hm (fun _ => p100 (Repo.rd (K := [0]) x0.Commits x0.Heads (a.ul P) (b.ul P))) fun A df hm l10 => ?_))))
 have Q := P.n l10
 have a6 := (b1.up O).up l10
 refine Ni rfl (ssr (la a6 (mi rfl (cr hm (fun _ => p133 (k0 := 4) (Repo.rd (K := [0]) x0.Commits x0.Heads (a.ul Q) (b.ul Q))) ?_))))
 rintro dg dh di hm S ⟨_, rfl, bq⟩
 have br := Q.n S
 refine mi rfl (ca hm (fun _ => p132 (K := [4]) bq.rd) fun dj dk hm U => ?_)
 have D := br.n U
 have V := (a6.up S).up U
 have a7 := ((b3.up l10).up S).up U
 refine nl (cn hm (fun hm => ?_) fun hm => ?_)
 ·refine sr (la V (sta a7 (zaa a.oc (zaa b.oc zaw)) fun dl bu bv => ?_))
  have X := D.t bu
  refine Ni rfl ?_
  cases hm
  exact Cw.ret (zeM rfl bv rfl (Res.mk X ⟨k, x, rfl, (a.ul X), (b.ul X)⟩))
 ·refine sk (ssr (la V (mi rfl (cr hm (fun _ => p133 (k0 := 5) (Repo.rd (K := [0]) x0.Commits x0.Heads (a.ul D) (b.ul D))) ?_))))
  rintro dm dn dp hm Y ⟨_, rfl, bw⟩
  have bz := D.n Y
  refine mi rfl (ca hm (fun _ => p132 (K := [5]) bw.rd) fun dq dr hm Z => ?_)
  have E := bz.n Z
  have a8 := (V.up Y).up Z
  have a9 := (a7.up Y).up Z
  refine nl (cn hm (fun hm => ?_) fun hm => ?_)
  ·refine sr (la a8 (ms rfl (mi rfl (cr hm (fun _ => p122 (Repo.rd (K := [0]) x0.Commits x0.Heads (a.ul E) (b.ul E))) ?_))))
   rintro ds _ dt hm ba ⟨b0, b2, rfl, b4, b5⟩
   have bb := b4.sub (M := [0]) rfl
   have bc := b5.sub (M := [0]) rfl
   have b6 := E.n ba
   refine sta (a9.up ba) (zaa bb.oc (zaa bc.oc zaw)) fun du b7 b8 => ?_
   have aa := b7.s
   refine Ni rfl ?_
   cases hm
   exact Cw.ret (zeM rfl b8 rfl (Res.mk (b6.trans aa) ⟨b0, b2, rfl, (bb.ul aa), (bc.ul aa)⟩))
  ·refine sk (Cw.seq (Cw.draw [] [(0, 1), (1, 0), (2, 0), (4, 0), (5, 1), (6, 0), (7, 0), (8, 0), (9, 1), (10, 0), (11, 1), (12, 0), (13, 0), (14, 0), (15, 1), (3, 2), (16, 2), (17, 0), (18, 0), (19, 0), (20, 0), (21, 0)] mixed (by kernel_rfl) fun dv ac => ?_))
   have ae := E.n ac
   have F := a8.up ac
   refine Mw.q rfl rfl (fun _ c => R.lda (cs := [k, x]) (F.clcs rfl c) rfl rfl) (Di rfl (Di rfl (Dfl F rfl rfl rfl (Di rfl ?_))))
   obtain ⟨dw, af, hm⟩ := ob hm
   have i := a.ul ae
   refine Mw.p rfl rfl (fun _ => R.ix (α := Commit) i af rfl rfl rfl) (Df rfl ?_)
   obtain ⟨dx, c83, r84⟩ := (Commit.at2 (i.at_ af)).cell rfl
   refine Mw.q rfl rfl (fun _ c => R.ld rfl rfl (zam (Commit.at2 (i.at_ af)).1 rfl c83 c)) (Dfl F rfl rfl rfl (Di rfl ?_))
   obtain ⟨dy, ah, hm⟩ := ob hm
   refine Mw.p rfl rfl (fun _ => R.ix (α := Commit) i ah rfl rfl rfl) (Df rfl ?_)
   obtain ⟨dz, c88, r89⟩ := (Commit.at2 (i.at_ ah)).cell rfl
   refine Mw.q rfl rfl (fun _ c => R.ld rfl rfl (zam (Commit.at2 (i.at_ ah)).1 rfl c88 c)) ?_
   obtain ⟨d0, b9, hm⟩ := ob hm
   refine Mw.t rfl rfl (T.call rfl (p135  (Repo.rd (K := [0]) x0.Commits x0.Heads i (b.ul ae)) b9)) ?_
   rintro d1 _ ⟨d2, rfl, G, ⟨_, rfl, cb⟩⟩
   have cc := cb.sub (M := [0]) rfl
   have ai := G.o
   refine m0 G fun cd => ?_
   obtain ⟨H, ce, hm⟩ := ob hm
   refine Mw.t rfl rfl (T.call rfl (p134 (k0 := 6) (k1 := 7) cc (r84.ul ai) (r89.ul ai) ce)) ?_
   rintro _ _ ⟨cf, rfl, I, ⟨d, y, rfl, cg, ch⟩⟩
   have be := (ae.trans ai).n I
   have aj := (F.up G).up I
   have bg := ((a9.up ac).up G).up I
   refine mc cd I fun d3 => Dv (.tuple [d, y].toArray) rfl (Mw.p rfl rfl (fun _ => R.ext (vs := [d, y]) (v := d) rfl rfl) (Mw.p rfl rfl (fun _ => R.ext (vs := [d, y]) (v := y) rfl rfl) (Hv d rfl (Hv y rfl (Mw.nil (ssr (mv y rfl (Lw.ln H.2 ch.rd rfl (Lw.gt rfl (nl (cn hm (fun hm => ?_) fun hm => ?_)))))))))))
   ·refine sr (la aj (sta bg (zaa a.oc (zaa b.oc zaw)) fun d4 ci cj => ?_))
    have ak := be.t ci
    refine Ni rfl ?_
    cases hm
    exact Cw.ret (zeM rfl cj rfl (Res.mk ak ⟨k, x, rfl, (a.ul ak), (b.ul ak)⟩))
   ·refine sk (sr (la aj (ms rfl (mi rfl (mi rfl (Lw.t rfl (T.bsS (α := Int) (xs := [A, x3]) 8 [] (W := cf) [vI A, vI x3] (Each.cons ((rdI _)) (Each.cons ((rdI _)) Each.nil)) rfl) ?_))))))
    rintro am _ ⟨d5, rfl, J, an⟩
    have ao := be.n J
    have ap := cg.up J
    refine ms rfl (mv d rfl (Lw.r rfl (R.bd (zs := [.slice none 0 0, vS ([] : Str), .slice none 0 0]) (cs := [am, vS x2, d]) [(0, am), (1, vS x2), (2, d)] rfl rfl rfl (zaD an.oc rfl (zaD rfl rfl (zaD ap.oc rfl zcU)))) (cr hm (fun _ => p131 (K := [0, 6, 8]) (x2 := (Vm.Commit.mk ([A, x3] : List Int) x2 H.1)) ((Repo.rd (K := [0]) x0.Commits x0.Heads (a.ul ao) (b.ul ao)).sub (M := [0, 6, 8]) rfl) ((Commit.rd (K := [6, 8]) ([A, x3] : List Int) x2 H.1 (an.rd.sub (M := [6, 8]) rfl) (ap.rd.sub (M := [6, 8]) rfl)).sub (M := [0, 6, 8]) rfl)) ?_)))
    rintro z _ d6 hm B ⟨aq, ar, rfl, ck, cl⟩
    have L := ck.sub (M := [0, 6, 8]) rfl
    have N := cl.sub (M := [0, 6, 8]) rfl
    have cm := ao.n B
    refine al 9 [.slice none 0 0, .slice none 0 0] fun d7 d8 e co => ?_
    have cp := cm.n e
    refine sta co (zaa L.oc (zaa N.oc zaw)) fun d9 f bh => ?_
    have cq := cp.t f
    refine nl (ssr (la bh ?_))
    have ct := L.up ((e.sub (M := [9]) rfl).trans (f.sub (M := [9]) rfl)) rfl
    have cu := N.up ((e.sub (M := [9]) rfl).trans (f.sub (M := [9]) rfl)) rfl
    refine ca hm (fun _ => p23 (K := [0, 6, 8]) (Repo.rd (K := [0, 6, 8]) z.Commits z.Heads ct cu)) fun ea eb hm h => ?_
    have bi := cq.n h
    have bj := ((((bg.up J).up B).up e).up f).up h
    refine Lw.r rfl (R.not rfl) (nl (cn hm (fun hm => ?_) fun hm => ?_))
    ·refine sr (la (((((aj.up J).up B).up e).up f).up h) (sta bj (zaa a.oc (zaa b.oc zaw)) fun ec cv cw => ?_))
     have au := bi.t cv
     refine Ni rfl ?_
     cases hm
     exact Cw.ret (zeM rfl cw rfl (Res.mk au ⟨k, x, rfl, (a.ul au), (b.ul au)⟩))
    ·refine sk (sr (la (bh.up h) (sta bj (zaa L.oc (zaa N.oc zaw)) fun ed C cx => ?_)))
     have cy := bi.t C
     refine Ni rfl ?_
     have cz := L.up ((e.sub (M := [3, 9]) rfl).trans ((f.sub (M := [3, 9]) rfl).trans ((h.sub (M := [3, 9]) rfl).trans (C.sub (M := [3, 9]) rfl)))) rfl
     have c0 := N.up ((e.sub (M := [3, 9]) rfl).trans ((f.sub (M := [3, 9]) rfl).trans ((h.sub (M := [3, 9]) rfl).trans (C.sub (M := [3, 9]) rfl)))) rfl
     obtain ⟨av, c1, aw, ax⟩ := zgW _ 6
     have c2 : Rd av [0, 8] [aq] z.Commits := by rw [ax]; exact (cz.dye 6).sub (M := [0, 8]) rfl
     have c3 : Rd av [0, 8] [ar] z.Heads := by rw [ax]; exact (c0.dye 6).sub (M := [0, 8]) rfl
     have ee : Rd (α := List Vm.File) av [0] [d] H.1 := by rw [ax]; exact ((((((ap.up B).up e).up f).up h).up C).rd.dye 6).sub (M := [0]) rfl
     have c4 := cy.t aw
     obtain ⟨ay, c5, bk, az⟩ := zgW _ 8
     have c6 : Rd ay [0] [aq] z.Commits := by rw [az]; exact (c2.dye 8).sub (M := [0]) rfl
     have c7 : Rd ay [0] [ar] z.Heads := by rw [az]; exact (c3.dye 8).sub (M := [0]) rfl
     have ef : Rd (α := List Int) ay [0] [am] ([A, x3] : List Int) := by rw [az]; exact (((((((an.up B).up e).up f).up h).up C).up aw).rd.dye 8).sub (M := [0]) rfl
     have c8 := c4.t bk
     cases hm
     rw [← c5.trans (c1)]
     exact Cw.ret (zeM rfl ((cx.up aw).up bk) rfl (Res.mk c8 ⟨aq, ar, rfl, c6, c7⟩))
theorem p123 {x0 d f x1 x2 x3 r} (h : Rd W K [d, f] x0) (hm : Vm.zc7 x0 x1 x2 x3 = some r) : Q1 123 [.agg [d, f].toArray, vS x1, vS x2, vI x3] W [] fun W' v => ∃ a b, v = .tuple [.agg [a, b].toArray, vI r.2].toArray ∧ Rd W' (0 :: K) [a] r.1.Commits ∧ Rd W' (0 :: K) [b] r.1.Heads :=
 (c123 (h.view _) hm).ad (fk 0) fun _ _ ⟨a, b, e, i, k⟩ => ⟨a, b, e, i.back rfl, k.back rfl⟩
theorem c106 {x0 T U x1 x2 x3 r} (h0 : Rd W0 [0] [T, U] x0) (hm : Vm.zbj x0 x1 x2 x3 = some r) : Q0 106 [.agg [T, U].toArray, vS x1, vS x2, vI x3] W0 fun Wf v => ∃ V W, v = .tuple [.agg [V, W].toArray, vI r.2].toArray ∧ Rd Wf [0] [V] r.1.Commits ∧ Rd Wf [0] [W] r.1.Heads := by
 unfold Vm.zbj at hm
 obtain ⟨ch, ci, X, h, A⟩ := Repo.split h0
 simp only [List.cons.injEq, and_true, true_and] at X
 obtain ⟨rfl, rfl⟩ := X
 refine zap.of Tryz.func106 rfl rfl rfl rfl (sr (bo 2 rfl fun g1 W1 l1 Y => ?_))
 have a2 := l1.o
 refine al 3 [.slice none 0 0, .slice none 0 0] fun g3 W3 F Z => ?_
 have G := a2.n F
 refine Ni rfl (ssr (la (Y.up F) (ca hm (fun _ => p23 (Repo.rd (K := [0]) x0.Commits x0.Heads (h.ul G) (A.ul G))) fun z8 ay hm l10 => ?_)))
 have i := G.n l10
 have B := (Y.up F).up l10
 refine Lw.r rfl (R.not rfl) (nl (cn hm (fun hm => ?_) fun hm => ?_))
 ·refine sr (Lw.r rfl (R.bd (zs := [.slice none 0 0, .slice none 0 0]) (cs := [.slice none 0 0, .slice none 0 0]) [] rfl rfl rfl zcU) (sta (Z.up l10) (zaa rfl (zaa rfl zaw)) fun cp az a0 => ?_))
  have a1 := i.t az
  refine Ni rfl ?_
  cases hm
  exact Cw.ret (zeM rfl a0 rfl (Res.mk a1 ⟨.slice none 0 0, .slice none 0 0, rfl, (rdN (K := [0])), (rdN (K := [0]))⟩))
 ·refine sk (Cw.seq ?_)
  obtain ⟨a3, a5, hm⟩ := za1 hm
  refine Cw.join 14 31 [31] (fun l w => ∃ H I, CW.w I = w ∧ Le [] ay I ∧ l = [vB H] ∧ a3 H = some r) ?_ ?_
  ·rintro _ _ σ ⟨H, I, rfl, C, rfl, hm⟩
   rw [a5] at hm
   have b := i.n C
   have aa := (Z.up l10).up C
   refine cn hm (fun hm => ?_) fun hm => ?_
   ·refine sr (la (B.up C) (cr hm (fun _ => p59 (k0 := 4) (k1 := 5) (Repo.rd (K := [0]) x0.Commits x0.Heads (h.ul b) (A.ul b))) ?_))
    rintro ac _ cq hm ae ⟨af, ah, rfl, ai, aj⟩
    have a6 := b.n ae
    refine sta (aa.up ae) (zaa ai.oc (zaa aj.oc zaw)) fun ct J a7 => ?_
    have a8 := a6.t J
    refine Ni rfl ?_
    obtain ⟨a9, ba, L, bb⟩ := zgW _ 4
    have bc : Rd (α := List Vm.Commit) a9 [0] [af] ac.Commits := by rw [bb]; exact ((ai.up J).rd.dye 4).sub (M := [0]) rfl
    have be := a8.t L
    obtain ⟨bg, bh, ak, bi⟩ := zgW _ 5
    have bj : Rd (α := List Vm.Head) bg [0] [ah] ac.Heads := by rw [bi]; exact (((aj.up J).up L).rd.dye 5).sub (M := [0]) rfl
    have am := ak.s
    cases hm
    rw [← bh.trans (ba)]
    exact Cw.ret (zeM rfl ((a7.up L).up ak) rfl (Res.mk (be.trans am) ⟨af, ah, rfl, (bc.ul am), bj⟩))
   ·refine sk (sr (la (B.up C) (cr hm (fun _ => p59 (k0 := 6) (k1 := 7) (Repo.rd (K := [0]) x0.Commits x0.Heads (h.ul b) (A.ul b))) ?_)))
    rintro d _ cu hm an ⟨bk, bl, rfl, ao, ap⟩
    have bm := b.n an
    refine ms rfl (ms rfl (mi rfl (cr hm (fun _ => p123 (K := [6, 7]) (x0 := (Vm.Repo.mk d.Commits d.Heads)) (Repo.rd (K := [6, 7]) d.Commits d.Heads (ao.rd.sub (M := [6, 7]) rfl) (ap.rd.sub (M := [6, 7]) rfl))) ?_)))
    rintro a _ cv hm D ⟨e, f, rfl, bn, bp⟩
    have aq := bn.sub (M := [0, 6, 7]) rfl
    have ar := bp.sub (M := [0, 6, 7]) rfl
    have bq := bm.n D
    refine Lw.r rfl (R.ext (vs := [.agg [e, f].toArray, vI a.2]) (v := .agg [e, f].toArray) rfl rfl) (Lw.r rfl (R.ext (vs := [.agg [e, f].toArray, vI a.2]) (v := vI a.2) rfl rfl) (sta ((aa.up an).up D) (zaa aq.oc (zaa ar.oc zaw)) fun cw k br => ?_))
    have bu := bq.t k
    refine Ni rfl ?_
    have bv := aq.up (k.sub (M := [3]) rfl) rfl
    have bw := ar.up (k.sub (M := [3]) rfl) rfl
    obtain ⟨N, bz, O, P⟩ := zgW _ 6
    have b0 : Rd N [0, 7] [e] a.1.Commits := by rw [P]; exact (bv.dye 6).sub (M := [0, 7]) rfl
    have b2 : Rd N [0, 7] [f] a.1.Heads := by rw [P]; exact (bw.dye 6).sub (M := [0, 7]) rfl
    have cx : Rd (α := List Vm.Commit) N [0] [bk] d.Commits := by rw [P]; exact (((ao.up D).up k).rd.dye 6).sub (M := [0]) rfl
    have b4 := bu.t O
    obtain ⟨Q, b5, au, S⟩ := zgW _ 7
    have b6 : Rd Q [0] [e] a.1.Commits := by rw [S]; exact (b0.dye 7).sub (M := [0]) rfl
    have b7 : Rd Q [0] [f] a.1.Heads := by rw [S]; exact (b2.dye 7).sub (M := [0]) rfl
    have cy : Rd (α := List Vm.Head) Q [0] [bl] d.Heads := by rw [S]; exact ((((ap.up D).up k).up O).rd.dye 7).sub (M := [0]) rfl
    have b8 := b4.t au
    cases hm
    rw [← b5.trans (bz)]
    exact Cw.ret (zeM rfl ((br.up O).up au) rfl (Res.mk b8 ⟨e, f, rfl, b6, b7⟩))
  ·refine rg (la B (ms rfl (ca hm (fun _ => p100 (Repo.rd (K := [0]) x0.Commits x0.Heads (h.ul i) (A.ul i))) fun cz b9 hm x => ?_)))
   have cb := i.n x
   refine Lw.lt rfl (mb rfl (bs hm (fun y hm => ?_) fun y hm => ?_))
   ·exact psk 3 y rfl (Pb y rfl (mb rfl (psk 7 rfl rfl (Pb rfl rfl (nl ((ag) ⟨true, b9, rfl, x, rfl, hm⟩))))))
   ·refine wak 3 y (ms rfl (ca hm (fun _ => p43) fun c0 cc hm E => ?_))
    have cd := cb.n E
    refine Lw.r rfl (R.not rfl) (Pb y rfl (mb rfl (bs hm (fun z hm => ?_) fun z hm => ?_)))
    ·exact psk 7 z rfl (Pb z rfl (nl ((ag) ⟨true, cc, rfl, (x.j E).w, rfl, hm⟩)))
    ·exact wak 7 z (mi rfl (fl ((B.up x).up E) rfl (Lw.ln x0.Commits (h.ul cd) rfl (Lw.sub rfl (ca hm (fun _ => p42) fun ce cf hm cg => Lw.r rfl (R.not rfl) (Pb z rfl (nl ((ag) ⟨(!ce), cf, rfl, ((x.j E).j cg).w, rfl, hm⟩))))))))
theorem p106 {x0 d f x1 x2 x3 r} (h : Rd W K [d, f] x0) (hm : Vm.zbj x0 x1 x2 x3 = some r) : Q1 106 [.agg [d, f].toArray, vS x1, vS x2, vI x3] W [] fun W' v => ∃ a b, v = .tuple [.agg [a, b].toArray, vI r.2].toArray ∧ Rd W' (0 :: K) [a] r.1.Commits ∧ Rd W' (0 :: K) [b] r.1.Heads :=
 (c106 (h.view _) hm).ad (fk 0) fun _ _ ⟨a, b, e, i, k⟩ => ⟨a, b, e, i.back rfl, k.back rfl⟩
theorem c125 {x0 k x x1 r} (D : Rd W0 [0] [k, x] x0) (hm : Vm.zbd x0 x1 = some r) : Q0 125 [.agg [k, x].toArray, vI x1] W0 fun Wf v => ∃ y, v = y ∧ Rd Wf [0] [y] r := by
 unfold Vm.zbd at hm
 obtain ⟨G, H, z, d, I⟩ := Repo.split D
 simp only [List.cons.injEq, and_true, true_and] at z
 obtain ⟨rfl, rfl⟩ := z
 refine zap.of Tryz.func125 rfl rfl rfl rfl (sr (bo 2 rfl fun J L E e => ?_))
 have b := E.o
 refine Nv (.slice none 0 0) rfl (ssr (fl e rfl (mi rfl ?_)))
 obtain ⟨F, A, hm⟩ := ob hm
 refine Lw.r rfl (R.ix (α := Commit) (d.ul b) A rfl rfl rfl) (Lw.fa rfl ?_)
 obtain ⟨M, c7, r8⟩ := (Commit.at0 ((d.ul b).at_ A)).cell rfl
 refine Lw.r rfl (R.ld rfl rfl c7) (Lw.ln F.Parents r8 rfl (Lw.eq rfl (nl (cn hm (fun hm => ?_) fun hm => ?_))))
 ·refine sr (Nv (.slice none 0 0) rfl ?_)
  cases hm
  exact Cw.ret (zhh rfl (Res.mk b ⟨.slice none 0 0, rfl, (rdN (K := [0]))⟩))
 ·refine sk (Cw.seq (Cw.draw [] [(0, 0), (1, 1), (2, 0), (3, 1), (4, 0), (5, 0), (6, 0), (7, 1), (8, 0), (9, 1), (10, 0), (11, 0), (12, 1), (13, 0)] mixed (by kernel_rfl) fun N l10 => ?_))
  have B := b.n l10
  refine Dfl (e.up l10) rfl rfl rfl (Dfl (e.up l10) rfl rfl rfl (Di rfl ?_))
  obtain ⟨O, f, hm⟩ := ob hm
  have a := d.ul B
  refine Mw.p rfl rfl (fun _ => R.ix (α := Commit) a f rfl rfl rfl) (Df rfl ?_)
  obtain ⟨P, c17, r18⟩ := (Commit.at0 (a.at_ f)).cell rfl
  refine Mw.q rfl rfl (fun _ c => R.ld rfl rfl (zam (Commit.at0 (a.at_ f)).1 rfl c17 c)) ?_
  obtain ⟨Q, h, hm⟩ := ob hm
  refine Mw.p rfl rfl (fun _ => R.ix (α := Int) r18 h rfl rfl rfl) (Mw.q rfl rfl (fun _ c => R.ld rfl rfl (zam (r18.at_ h).1 rfl (r18.at_ h).int c)) ?_)
  obtain ⟨S, i, hm⟩ := ob hm
  refine Mw.p rfl rfl (fun _ => R.ix (α := Commit) a i rfl rfl rfl) (Df rfl ?_)
  obtain ⟨C, c24, r25⟩ := (Commit.at2 (a.at_ i)).cell rfl
  refine Mw.q rfl rfl (fun _ c => R.ld rfl rfl (zam (Commit.at2 (a.at_ i)).1 rfl c24 c)) (Hv C rfl (Mw.nil ?_))
  cases hm
  exact Cw.ret (zhh rfl (Res.mk B ⟨C, rfl, r25⟩))
theorem p125 {x0 b d x1 r} (f : Rd W K [b, d] x0) (hm : Vm.zbd x0 x1 = some r) : Q1 125 [.agg [b, d].toArray, vI x1] W [] fun W' v => ∃ a, v = a ∧ Rd W' (0 :: K) [a] r :=
 (c125 (f.view _) hm).ad (fk 0) fun _ _ ⟨a, e, h⟩ => ⟨a, e, h.back rfl⟩
end Go.Sx
