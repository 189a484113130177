/- Walks: each function answers as its model, printed by a program of ours. Conditions: the arguments read as they are given. -/
import Derived.Test.YtbimgeocngkboaaGreatDoorBTs
import Derived.Test.YtbimgeocngkboaaGreatDoorBM0
import Derived.Test.YtbimgeocngkboaaGreatDoorBW0
import Derived.Test.YtbimgeocngkboaaGreatDoorBW1
namespace Go.Sx
open Go Go.Proofs Go.Vm Rp
set_option linter.unusedVariables false
set_option linter.unusedSimpArgs false
variable {W W0 : CW} {K : List Nat}
theorem c131 {x0 x x1 i r} (y : Rd W0 [0] [x] x0) (I : Rd W0 [0] [i] x1) (hm : Vm.spec_l1Match x0 x1 = some r) : Q0 131 [x, i] W0 fun Wf v => ∃ X, v = X ∧ OwS Wf LL [] [X] r := by
 unfold Vm.spec_l1Match at hm
 refine CallR.of Tryz.func131 rfl rfl rfl rfl (sr (Nv (.slice none 0 0) rfl (sr (mv x rfl (mv i rfl (cr hm (fun _ => p143 (k0 := 2) y I) ?_))))))
 rintro z1 J W3 hm l3 ⟨_, rfl, au⟩
 have a4 := l3.o
 refine Nv J rfl (sr (Lw.t rfl (T.lit0 (α := Int) 3 []) ?_))
 rintro Y _ ⟨Z, rfl, l5, o5⟩
 have a6 := a4.n l5
 refine Nv Y rfl (sr (Ni rfl (ssr (Ni rfl (Cw.block ?_)))))
 obtain ⟨ay, az, hm⟩ := jn_e hm
 refine Cw.loop 13 71 [6, 7, 8] (fun m l w => ∃ B d e f z, CW.w z = w ∧ Le [3] Z z ∧ l = [f, vI d, vI e] ∧ Ow z 3 [] [f] B ∧ Vm.spec_l1Match_l1 x0 x1 z1 ay m B d e = some r) _ ⟨([] : List Int), 0, 0, Y, Z, rfl, Le.refl _ _, rfl, o5, hm⟩ ?_
 rintro (_ | bn) _ _ σ ⟨B, d, e, f, z, rfl, A, rfl, K, hm⟩
 ·cases hm
 unfold Vm.spec_l1Match_l1 at hm
 have C := a6.t A
 refine ssr (mi rfl (mv x rfl (Lw.ln x0 (y.ul C) rfl (Lw.lt rfl (nl (cn hm (fun hm => ?_) fun hm => ?_))))))
 ·refine sk (Cw.block (Cw.block ?_))
  obtain ⟨a0, a1, hm⟩ := jn_e hm
  refine Cw.join 19 34 [19] (fun l w => ∃ L D, CW.w D = w ∧ Le [] z D ∧ l = [vB L] ∧ a0 L = some r) ?_ ?_
  ·rintro _ _ σ ⟨L, D, rfl, h, rfl, hm⟩
   rw [a1] at hm
   have a2 := C.n h
   refine cn hm (fun hm => ?_) fun hm => ?_
   ·refine sr (mv f rfl (mi rfl (Lw.t rfl (T.bs 4 [vI d] (cs := [vI d]) rfl rfl (bsv rfl)) ?_)))
    rintro _ _ ⟨bp, bq, rfl, rfl, ac, a3⟩
    obtain ⟨a5, a7, hm⟩ := ob hm
    refine Lw.t rfl (T.app1S (α := Int) (K' := []) ((K.up h).up ac) a3 (rdI _) rfl rfl a7) ?_
    rintro ae _ ⟨a8, rfl, a9, ba⟩
    exact Nv ae rfl (sr (mi rfl (Lw.add rfl (Ni rfl (rg (mi rfl (Lw.add rfl (Ni rfl ((agm) ⟨a5, w64 (d + 1), w64 (e + 1), ae, a8, rfl, (((A.j h).j ac).j a9).w, rfl, ba, hm⟩)))))))))
   ·obtain ⟨bb, bc, hm⟩ := jn_e hm
    refine Cw.join 43 66 [43] (fun l w => ∃ M E, CW.w E = w ∧ Le [] D E ∧ l = [vB M] ∧ bb M = some r) ?_ ?_
    ·rintro _ _ σ ⟨M, E, rfl, N, rfl, hm⟩
     rw [bc] at hm
     have af := (K.up h).up N
     refine cn hm (fun hm => ?_) fun hm => ?_
     ·refine sr (mv f rfl (Lw.t rfl (T.bs 5 [vI (-1)] (cs := [vI (-1)]) rfl rfl (bsv rfl)) ?_))
      rintro _ _ ⟨br, bu, rfl, rfl, ah, be⟩
      obtain ⟨bg, bh, hm⟩ := ob hm
      refine Lw.t rfl (T.app1S (α := Int) (K' := []) (af.up ah) be (rdI _) rfl rfl bh) ?_
      rintro ai _ ⟨bi, rfl, bj, bk⟩
      exact Nv ai rfl (rg (mi rfl (Lw.add rfl (Ni rfl ((agm) ⟨bg, d, w64 (e + 1), ai, bi, rfl, ((((A.j h).j N).j ah).j bj).w, rfl, bk, hm⟩)))))
     ·exact rg (mi rfl (Lw.add rfl (Ni rfl ((agm) ⟨B, w64 (d + 1), e, f, E, rfl, ((A.j h).j N).w, rfl, af, hm⟩))))
    ·refine Cw.draw [] [(0, 0), (1, 0), (2, 0), (3, 0), (4, 0), (5, 0), (6, 0), (7, 0), (8, 0), (9, 1), (10, 0), (11, 0), (12, 1), (13, 0), (14, 0), (15, 0), (16, 1), (17, 0), (18, 0), (19, 0), (20, 1), (21, 0), (22, 0), (23, 0)] mixed (by kernel_rfl) fun aj F => ?_
     have bl := a2.n F
     have k := (((au.up l5).up A).up h).up F
     refine Di rfl (Dv i rfl (Mw.p rfl rfl (fun _ => lenR (xs := x1) (I.ul bl) rfl) (Mw.p rfl rfl (fun _ => R.ge rfl rfl) (Db rfl (bs hm (fun a hm => ?_) fun a hm => ?_)))))
     ·exact dps 17 a rfl (Mw.p rfl rfl (fun _ => R.pk a rfl (v := vB true) rfl) (Hb rfl (Mw.nil ((ag) ⟨true, aj, rfl, F, rfl, hm⟩))))
     ·refine Wp a rfl (fun _ => R.mv (v := J) rfl) (Wp a rfl (fun _ => R.mv (v := vI e) rfl) (Wp a rfl (fun _ => R.add rfl rfl) ?_))
      obtain ⟨bv, O, hm⟩ := ob hm
      refine Wp a rfl (fun _ => R.ix (α := List Int) k.rd O rfl rfl rfl) ?_
      obtain ⟨bw, c63, r64⟩ := (k.rd.at_ O).cell rfl
      refine Wq a rfl (fun _ c => R.ld rfl rfl (cl_cell (k.rd.at_ O).1 rfl c63 c)) (Wp a rfl (fun _ => R.mv (v := vI d) rfl) ?_)
      obtain ⟨ak, P, hm⟩ := ob hm
      refine Wp a rfl (fun _ => R.ix (α := Int) r64 P rfl rfl rfl) (Wq a rfl (fun _ c => R.ld rfl rfl (cl_cell (r64.at_ P).1 rfl (r64.at_ P).int c)) (Wp a rfl (fun _ => R.mv (v := J) rfl) (Wp a rfl (fun _ => R.mv (v := vI e) rfl) ?_)))
      obtain ⟨bz, Q, hm⟩ := ob hm
      refine Wp a rfl (fun _ => R.ix (α := List Int) k.rd Q rfl rfl rfl) ?_
      obtain ⟨b0, c70, r71⟩ := (k.rd.at_ Q).cell rfl
      refine Wq a rfl (fun _ c => R.ld rfl rfl (cl_cell (k.rd.at_ Q).1 rfl c70 c)) (Wp a rfl (fun _ => R.mv (v := vI d) rfl) (Wp a rfl (fun _ => R.add rfl rfl) ?_))
      obtain ⟨am, S, hm⟩ := ob hm
      exact Wp a rfl (fun _ => R.ix (α := Int) r71 S rfl rfl rfl) (Wq a rfl (fun _ c => R.ld rfl rfl (cl_cell (r71.at_ S).1 rfl (r71.at_ S).int c)) (Wp a rfl (fun _ => R.ge rfl rfl) (Mw.p rfl rfl (fun _ => R.pk a rfl (v := vB (decide ((am : Int) ≤ (ak : Int)))) rfl) (Hb rfl (Mw.nil ((ag) ⟨decide ((am : Int) ≤ (ak : Int)), aj, rfl, F, rfl, hm⟩))))))
  ·refine Cw.draw [] [(0, 0), (1, 0), (2, 0), (3, 0), (4, 0), (5, 0), (6, 0), (7, 0), (8, 1), (9, 0), (10, 0), (11, 0), (12, 1), (13, 0), (14, 0), (15, 0)] mixed (by kernel_rfl) fun an U => ?_
   have G := C.n U
   have H := I.ul G
   refine Di rfl (Dv i rfl (Mw.p rfl rfl (fun _ => lenR (xs := x1) H rfl) (Mw.p rfl rfl (fun _ => R.lt rfl rfl) (Db rfl (bs hm (fun b hm => ?_) fun b hm => ?_)))))
   ·refine Wp b rfl (fun _ => R.mv (v := x) rfl) (Wp b rfl (fun _ => R.mv (v := vI e) rfl) ?_)
    obtain ⟨ao, V, hm⟩ := ob hm
    refine Wp b rfl (fun _ => R.ix (α := Str) (y.ul G) V rfl rfl rfl) (Wq b rfl (fun _ c => R.ld rfl rfl (cl_cell ((y.ul G).at_ V).1 rfl ((y.ul G).at_ V).str c)) (Wp b rfl (fun _ => R.mv (v := i) rfl) (Wp b rfl (fun _ => R.mv (v := vI d) rfl) ?_)))
    obtain ⟨ap, W, hm⟩ := ob hm
    exact Wp b rfl (fun _ => R.ix (α := Str) H W rfl rfl rfl) (Wq b rfl (fun _ c => R.ld rfl rfl (cl_cell (H.at_ W).1 rfl (H.at_ W).str c)) (Wp b rfl (fun _ => R.seq rfl rfl) (Mw.p rfl rfl (fun _ => R.pk b rfl (v := vB (ao == ap)) rfl) (Hb rfl (Mw.nil ((ag) ⟨(ao == ap), an, rfl, U, rfl, hm⟩))))))
   ·exact dps 9 b rfl (Mw.p rfl rfl (fun _ => R.pk b rfl (v := vB false) rfl) (Hb rfl (Mw.nil ((ag) ⟨false, an, rfl, U, rfl, hm⟩))))
 ·refine Cw.exit ?_
  rw [az] at hm
  refine sr (mv f rfl (Nv f rfl ?_))
  cases hm
  exact Cw.ret (ret1 rfl (Res.mk C ⟨f, rfl, K.s.sub rfl rfl⟩))
theorem p131 {x0 b x1 d k0 r} (f : Rd W K [b] x0) (h : Rd W K [d] x1) (hm : Vm.spec_l1Match x0 x1 = some r) : Q1 131 [b, d] W [] fun W' v => ∃ a, v = a ∧ Ow W' k0 [] [a] r :=
 (c131 (f.view _) (h.view _) hm).ad (fk k0) fun _ _ ⟨a, e, i⟩ => ⟨a, e, i.back (fk_LL _)⟩
theorem c133 {x0 d x1 a x2 b r} (C : Rd W0 [0] [d] x0) (e : Rd W0 [0] [a] x1) (f : Rd W0 [0] [b] x2) (hm : Vm.spec_l3Part x0 x1 x2 = some r) : Q0 133 [d, a, b] W0 fun Wf v => ∃ V W X Y, v = .agg [vB r.Clash, V, W, X, Y].toArray ∧ OwS Wf [31] [] [V] r.Lines ∧ OwS Wf [32] [] [W] r.Old ∧ OwS Wf [33] [] [X] r.One ∧ OwS Wf [34] [] [Y] r.Two := by
 unfold Vm.spec_l3Part at hm
 refine CallR.of Tryz.func133 rfl rfl rfl rfl (sr (al 2 [vB false, .slice none 0 0, .slice none 0 0, .slice none 0 0, .slice none 0 0] fun g1 W1 l1 Z => ?_))
 have h := l1.o
 refine nl (Cw.seq (Cw.block ?_))
 obtain ⟨K5, a3, hm⟩ := jn_e hm
 refine Cw.join 7 13 [7] (fun l w => ∃ D E, CW.w E = w ∧ Le [] W1 E ∧ l = [vB D] ∧ K5 D = some r) ?_ ?_
 ·rintro _ _ σ ⟨D, E, rfl, F, rfl, hm⟩
  rw [a3] at hm
  have i := h.n F
  refine cn hm (fun hm => ?_) fun hm => ?_
  ·refine sr (Lw.t rfl (T.lit0 (α := Str) 3 []) ?_)
   rintro v9 _ ⟨W9, rfl, l9, o9⟩
   have ac := i.n l9
   refine mv b rfl ?_
   obtain ⟨cp, a5, hm⟩ := ob hm
   refine Lw.t rfl (T.appP (α := Str) o9 (f.ul ac) rfl rfl a5) ?_
   rintro G _ ⟨cq, rfl, ae, H⟩
   have a7 := ac.t ae
   refine Lw.r rfl (R.bd (zs := [vB false, .slice none 0 0, .slice none 0 0, .slice none 0 0, .slice none 0 0]) (cs := [vB false, G, .slice none 0 0, .slice none 0 0, .slice none 0 0]) [(1, G)] rfl rfl rfl (bp_cons H.oc rfl bp_nil)) (sta (((Z.up F).up l9).up ae) (oc_cons rfl (oc_cons H.oc (oc_cons rfl (oc_cons rfl (oc_cons rfl oc_nil))))) fun ct af a8 => ?_)
   have a9 := a7.t af
   refine nl ?_
   obtain ⟨cu, ba, ah, bb⟩ := (H.up af).dyeO 31
   have bc := a9.t ah
   cases hm
   rw [← ba]
   exact Cw.ret (retA1 rfl (a8.up ah) (Res.mk bc ⟨G, .slice none 0 0, .slice none 0 0, .slice none 0 0, rfl, bb.s, (owsN []).sub rfl rfl, (owsN []).sub rfl rfl, (owsN []).sub rfl rfl⟩))
  ·refine sr (mv b rfl (mv d rfl (ca hm (fun _ => p130 (f.ul i) (C.ul i)) fun cv cw hm ai => ?_)))
   have aj := i.n ai
   have ak := (Z.up F).up ai
   refine Nb rfl (cn hm (fun hm => ?_) fun hm => ?_)
   ·refine sr (Lw.t rfl (T.lit0 (α := Str) 4 []) ?_)
    rintro cx _ ⟨cy, rfl, am, be⟩
    have an := aj.n am
    refine mv a rfl ?_
    obtain ⟨cz, bg, hm⟩ := ob hm
    refine Lw.t rfl (T.appP (α := Str) be (e.ul an) rfl rfl bg) ?_
    rintro I _ ⟨c0, rfl, ao, J⟩
    have bh := an.t ao
    refine Lw.r rfl (R.bd (zs := [vB false, .slice none 0 0, .slice none 0 0, .slice none 0 0, .slice none 0 0]) (cs := [vB false, I, .slice none 0 0, .slice none 0 0, .slice none 0 0]) [(1, I)] rfl rfl rfl (bp_cons J.oc rfl bp_nil)) (sta ((ak.up am).up ao) (oc_cons rfl (oc_cons J.oc (oc_cons rfl (oc_cons rfl (oc_cons rfl oc_nil))))) fun c1 ap bi => ?_)
    have bj := bh.t ap
    refine nl ?_
    obtain ⟨c2, bk, aq, bl⟩ := (J.up ap).dyeO 31
    have bm := bj.t aq
    cases hm
    rw [← bk]
    exact Cw.ret (retA1 rfl (bi.up aq) (Res.mk bm ⟨I, .slice none 0 0, .slice none 0 0, .slice none 0 0, rfl, bl.s, (owsN []).sub rfl rfl, (owsN []).sub rfl rfl, (owsN []).sub rfl rfl⟩))
   ·refine sk (sr (Lw.t rfl (T.lit0 (α := Str) 5 []) ?_))
    rintro c3 _ ⟨c4, rfl, ar, bn⟩
    have au := aj.n ar
    refine mv d rfl ?_
    obtain ⟨c5, bp, hm⟩ := ob hm
    refine Lw.t rfl (T.appP (α := Str) bn (C.ul au) rfl rfl bp) ?_
    rintro K _ ⟨c6, rfl, av, bq⟩
    have br := au.t av
    refine Lw.t rfl (T.lit0 (α := Str) 6 []) ?_
    rintro c7 _ ⟨c8, rfl, L, bu⟩
    have aw := br.n L
    refine mv a rfl ?_
    obtain ⟨c9, bv, hm⟩ := ob hm
    refine Lw.t rfl (T.appP (α := Str) bu (e.ul aw) rfl rfl bv) ?_
    rintro M _ ⟨da, rfl, N, bw⟩
    have bz := aw.t N
    refine Lw.t rfl (T.lit0 (α := Str) 7 []) ?_
    rintro db _ ⟨dc, rfl, k, b0⟩
    have ax := bz.n k
    refine mv b rfl ?_
    obtain ⟨dd, b2, hm⟩ := ob hm
    refine Lw.t rfl (T.appP (α := Str) b0 (f.ul ax) rfl rfl b2) ?_
    rintro O _ ⟨de, rfl, x, P⟩
    have b3 := ax.t x
    have Q := (((bq.up L).up N).up k).up x
    have S := (bw.up k).up x
    refine Lw.r rfl (R.bd (zs := [vB false, .slice none 0 0, .slice none 0 0, .slice none 0 0, .slice none 0 0]) (cs := [vB true, .slice none 0 0, K, M, O]) [(0, vB true), (2, K), (3, M), (4, O)] rfl rfl rfl (bp_cons rfl rfl (bp_cons Q.oc rfl (bp_cons S.oc rfl (bp_cons P.oc rfl bp_nil))))) (sta ((((((ak.up ar).up av).up L).up N).up k).up x) (oc_cons rfl (oc_cons rfl (oc_cons Q.oc (oc_cons S.oc (oc_cons P.oc oc_nil))))) fun df y b4 => ?_)
    have b5 := b3.t y
    refine nl ?_
    obtain ⟨dg, b6, z, b7⟩ := (Q.up y).dyeO 32
    have b8 := b5.t z
    obtain ⟨dh, b9, A, cb⟩ := ((S.up y).up z).dyeO 33
    have cc := b8.t A
    obtain ⟨di, cd, B, ce⟩ := (((P.up y).up z).up A).dyeO 34
    have cf := cc.t B
    cases hm
    rw [← cd.trans (b9.trans (b6))]
    exact Cw.ret (retA1 rfl (((b4.up z).up A).up B) (Res.mk cf ⟨.slice none 0 0, K, M, O, rfl, (owsN []).sub rfl rfl, ((b7.up A).up B).s, (cb.up B).s, ce.s⟩))
 ·refine sr (mv a rfl (mv d rfl (ca hm (fun _ => p130 (e.ul h) (C.ul h)) fun cg ch hm U => ?_)))
  have ay := h.n U
  refine Nb rfl (cn hm (fun hm => ?_) fun hm => ?_)
  ·exact sk ((ag) ⟨cg, ch, rfl, U, rfl, hm⟩)
  ·exact rg (mv a rfl (mv b rfl (ca hm (fun _ => p130 (e.ul ay) (f.ul ay)) fun ci cj hm ck => Nb rfl ((ag) ⟨ci, cj, rfl, (U.j ck).w, rfl, hm⟩))))
theorem p133 {x0 h x1 i x2 k k0 k1 k2 k3 r} (x : Rd W K [h] x0) (y : Rd W K [i] x1) (z : Rd W K [k] x2) (hm : Vm.spec_l3Part x0 x1 x2 = some r) : Q1 133 [h, i, k] W [] fun W' v => ∃ a b d f, v = .agg [vB r.Clash, a, b, d, f].toArray ∧ Ow W' k0 [] [a] r.Lines ∧ Ow W' k1 [] [b] r.Old ∧ Ow W' k2 [] [d] r.One ∧ Ow W' k3 [] [f] r.Two :=
 CallR.adJ (J := []) (fun c => bif Nat.beq c 0 then 0 else bif Nat.beq c 31 then k0 else bif Nat.beq c 32 then k1 else bif Nat.beq c 33 then k2 else bif Nat.beq c 34 then k3 else 0) (c133 (x.view _) (y.view _) (z.view _) hm) fun _ _ ⟨a, b, d, f, e, A, B, C, D⟩ => ⟨a, b, d, f, e, A.one1.backN rfl, B.one1.backN rfl, C.one1.backN rfl, D.one1.backN rfl⟩
theorem c132 {x0 a x1 A B C D r} (N : Ow W0 2 [] [a] x0) (O : Ow W0 3 [] [A] x1.Lines) (aa : Ow W0 4 [] [B] x1.Old) (ac : Ow W0 5 [] [C] x1.One) (ae : Ow W0 6 [] [D] x1.Two) (hm : Vm.spec_l3Put x0 x1 = some r) : Q0 132 [a, .agg [vB x1.Clash, A, B, C, D].toArray] W0 fun Wf v => ∃ P, v = P ∧ OwS Wf [31] [] [P] r := by
 unfold Vm.spec_l3Put at hm
 refine CallR.of Tryz.func132 rfl rfl rfl rfl (sr (bo 7 rfl fun g1 H b E => ?_))
 have a2 := b.o
 refine Nv (.slice none 0 0) rfl (sr (mv a rfl (Lw.ln x0 (N.up b).rd rfl (Ni rfl (Cw.seq ?_)))))
 obtain ⟨ah, ai, hm⟩ := jn_e hm
 refine Cw.join 8 16 [16] (fun l w => ∃ I f, CW.w f = w ∧ Le [] H f ∧ l = [vB I] ∧ ah I = some r) ?_ ?_
 ·rintro _ _ σ ⟨I, f, rfl, d, rfl, hm⟩
  rw [ai] at hm
  have Q := a2.n d
  have i := (N.up b).up d
  refine cn hm (fun hm => ?_) fun hm => ?_
  ·refine sr (mv a rfl (Nv a rfl ?_))
   obtain ⟨bp, aj, ak, am⟩ := i.dyeO 31
   have an := Q.t ak
   cases hm
   rw [← aj]
   exact Cw.ret (ret1 rfl (Res.mk an ⟨a, rfl, am.s⟩))
  ·refine sk (Cw.seq ?_)
   obtain ⟨ao, ap, hm⟩ := jn_e hm
   refine Cw.join 18 33 [33] (fun l w => ∃ K L, CW.w L = w ∧ Le [] f L ∧ l = [vB K] ∧ ao K = some r) ?_ ?_
   ·rintro _ _ σ ⟨K, L, rfl, e, rfl, hm⟩
    rw [ap] at hm
    have S := Q.n e
    have U := ((O.up b).up d).up e
    have V := (E.up d).up e
    refine cn hm (fun hm => ?_) fun hm => ?_
    ·refine Cw.seq (Cw.draw [] [(0, 0), (1, 0), (2, 0), (3, 0), (4, 0), (5, 0), (6, 0), (7, 0), (8, 1), (9, 0), (10, 1), (11, 3), (12, 0), (13, 0), (14, 3)] mixed (by kernel_rfl) fun bq F => ?_)
     have aq := S.n F
     have k := (i.up e).up F
     refine Dv a rfl (Di rfl (Mw.p rfl rfl (fun _ => R.sub rfl rfl) (Dv a rfl (Di rfl (Mw.p rfl rfl (fun _ => R.sub rfl rfl) ?_)))))
     obtain ⟨br, G, hm⟩ := ob hm
     refine Mw.p rfl rfl (fun _ => R.ix (α := Part) k.rd G rfl rfl rfl) (Df rfl ?_)
     obtain ⟨bu, c48, r49⟩ := (Part.at1 (k.rd.at_ G)).cell rfl
     refine Mw.q rfl rfl (fun _ c => R.ld rfl rfl (cl_cell (Part.at1 (k.rd.at_ G)).1 rfl c48 c)) (Dfl (V.up F) rfl rfl rfl ?_)
     obtain ⟨bv, ar, W, au, av⟩ := Ow.take (α := Part) (β := List Str) (j := 8) (jf := 1) k G c48 rfl
     rw [← ar]
     have aw := aq.t W
     obtain ⟨bw, ax, hm⟩ := ob hm
     refine Mw.l rfl rfl (T.appP (α := Str) au ((U.up F).up W).rd rfl rfl ax) ?_
     rintro bz _ ⟨b0, rfl, X, ay⟩
     have az := aw.t X
     obtain ⟨b2, a0, hm⟩ := ob hm
     refine Mw.p rfl rfl (fun _ => R.ix (α := Part) k.rd a0 rfl rfl rfl) (Df rfl ?_)
     obtain ⟨b3, a1, hm⟩ := ob hm
     refine Mw.lu rfl (T.stH (α := Part) (β := List Str) (J := [8]) (av.up (X.sub (M := [8]) rfl) rfl) ay.s a1 rfl rfl rfl rfl) ?_
     rintro _ _ ⟨b4, rfl, a3, a4⟩
     have a5 := az.t a3
     refine Mw.nil (sr (mv a rfl (Nv a rfl ?_)))
     obtain ⟨b5, a6, a7, a8⟩ := a4.dyeO 31
     have a9 := a5.t a7
     cases hm
     rw [← a6]
     exact Cw.ret (ret1 rfl (Res.mk a9 ⟨a, rfl, a8.s⟩))
    ·refine sk (sr (mv a rfl (la V (Lw.t rfl (T.bs 9 [.agg [vB x1.Clash, A, B, C, D].toArray] (cs := [vB x1.Clash, A, B, C, D]) rfl rfl (bsA rfl)) ?_))))
     rintro _ _ ⟨b6, b7, rfl, rfl, h, ba⟩
     have bb := S.n h
     obtain ⟨b8, bc, hm⟩ := ob hm
     refine Lw.t rfl (T.app1 (α := Part) (J := [3, 4, 5, 6]) (K' := []) ((i.up e).up h) ba (Part.own x1.Clash x1.Lines x1.Old x1.One x1.Two (U.up h).s ((((aa.up b).up d).up e).up h).s ((((ac.up b).up d).up e).up h).s ((((ae.up b).up d).up e).up h).s) rfl rfl bc) ?_
     rintro Y _ ⟨b9, rfl, be, bg⟩
     have bh := bb.t be
     refine Nv Y rfl ?_
     obtain ⟨cb, bi, bj, bk⟩ := bg.dyeO 31
     have bl := bh.t bj
     cases hm
     rw [← bi]
     exact Cw.ret (ret1 rfl (Res.mk bl ⟨Y, rfl, bk.s⟩))
   ·refine rg (mi rfl (Lw.gt rfl (mb rfl (bs hm (fun x hm => ?_) fun x hm => ?_))))
    ·refine wak 3 x (fl (E.up d) rfl (Lw.r rfl (R.not rfl) (Pb x rfl (mb rfl (bs hm (fun y hm => ?_) fun y hm => ?_)))))
     ·refine wak 7 y (mv a rfl (mi rfl (Lw.sub rfl ?_)))
      obtain ⟨bm, Z, hm⟩ := ob hm
      exact Lw.r rfl (R.ix (α := Part) i.rd Z rfl rfl rfl) (Lw.fa rfl (Lw.r rfl (R.ld rfl rfl (Part.at0 (i.rd.at_ Z)).bool) (Lw.r rfl (R.not rfl) (Pb y rfl (nl ((ag) ⟨(!bm.Clash), f, rfl, Le.refl _ _, rfl, hm⟩))))))
     ·exact psk 7 y rfl (Pb y rfl (nl ((ag) ⟨false, f, rfl, Le.refl _ _, rfl, hm⟩)))
    ·exact psk 3 x rfl (Pb x rfl (mb rfl (psk 7 rfl rfl (Pb rfl rfl (nl ((ag) ⟨false, f, rfl, Le.refl _ _, rfl, hm⟩))))))
 ·refine rg (fl E rfl (Lw.r rfl (R.not rfl) (mb rfl (bs hm (fun z hm => ?_) fun z hm => ?_))))
  ·exact wak 4 z (fl E rfl (Lw.ln x1.Lines (O.up b).rd rfl (Lw.eq rfl (Pb z rfl (nl ((ag) ⟨(((x1.Lines.length : Int) : Int) == (0 : Int)), H, rfl, Le.refl _ _, rfl, hm⟩))))))
  ·exact psk 4 z rfl (Pb z rfl (nl ((ag) ⟨false, H, rfl, Le.refl _ _, rfl, hm⟩)))
theorem p132 {x0 b x1 d f h i k0 c0 c1 c2 c3 c4 r} (k : Ow W c0 [] [b] x0) (x : Ow W c1 [] [d] x1.Lines) (y : Ow W c2 [] [f] x1.Old) (z : Ow W c3 [] [h] x1.One) (A : Ow W c4 [] [i] x1.Two) (hJ : okJ K [c0, c1, c2, c3, c4] = true) (hm : Vm.spec_l3Put x0 x1 = some r) : Q1 132 [b, .agg [vB x1.Clash, d, f, h, i].toArray] W [c0, c1, c2, c3, c4] fun W' v => ∃ a, v = a ∧ Ow W' k0 [] [a] r :=
 CallR.adJ (J := [c0, c1, c2, c3, c4]) (fun c => bif Nat.beq c 0 then 0 else bif Nat.beq c 2 then c0 else bif Nat.beq c 3 then c1 else bif Nat.beq c 4 then c2 else bif Nat.beq c 5 then c3 else bif Nat.beq c 6 then c4 else bif Nat.beq c 31 then k0 else 0) (c132 (k.viewJ 0 hJ) (x.viewJ 1 hJ) (y.viewJ 2 hJ) (z.viewJ 3 hJ) (A.viewJ 4 hJ) hm) fun _ _ ⟨a, e, B⟩ => ⟨a, e, B.one1.backN rfl⟩
theorem c118 {x0 d x1 k x2 x r} (e : Rd W0 [0] [d] x0) (F : Rd W0 [0] [k] x1) (G : Rd W0 [0] [x] x2) (hm : Vm.spec_l3Of x0 x1 x2 = some r) : Q0 118 [d, k, x] W0 fun Wf v => ∃ u0, v = u0 ∧ OwS Wf LL [] [u0] r := by
 unfold Vm.spec_l3Of at hm
 refine CallR.of Tryz.func118 rfl rfl rfl rfl (sr (Nv (.slice none 0 0) rfl (sr (Lw.t rfl (T.lit0 (α := Part) 2 []) ?_))))
 rintro v1 _ ⟨W1, rfl, l1, o1⟩
 have a2 := l1.o
 refine Nv v1 rfl (sr (mv d rfl (mv k rfl (cr hm (fun _ => p131 (k0 := 3) (e.ul a2) (F.ul a2)) ?_))))
 rintro z5 dk W7 hm l7 ⟨_, rfl, bw⟩
 have a8 := a2.n l7
 refine mv k rfl (Lw.ln x1 (F.ul a8) rfl (Lw.t rfl (T.bs 4 [vI (x1.length : Int)] (cs := [vI (x1.length : Int)]) rfl rfl (bsv rfl)) ?_))
 rintro _ _ ⟨dm, dn, rfl, rfl, ai, bz⟩
 have b0 := a8.n ai
 obtain ⟨a4, b1, hm⟩ := ob hm
 refine Lw.t rfl (T.app1S (α := Int) (K' := []) (bw.up ai) bz (rdI _) rfl rfl b1) ?_
 rintro y _ ⟨dp, rfl, a5, b2⟩
 have aj := b0.t a5
 refine Nv y rfl (sr (mv d rfl (mv x rfl (cr hm (fun _ => p131 (k0 := 5) (e.ul aj) (G.ul aj)) ?_))))
 rintro dq dr ds hm ak ⟨_, rfl, b3⟩
 have a6 := aj.n ak
 refine mv x rfl (Lw.ln x2 (G.ul a6) rfl (Lw.t rfl (T.bs 6 [vI (x2.length : Int)] (cs := [vI (x2.length : Int)]) rfl rfl (bsv rfl)) ?_))
 rintro _ _ ⟨dt, du, rfl, rfl, H, b4⟩
 have b5 := a6.n H
 obtain ⟨b6, b7, hm⟩ := ob hm
 refine Lw.t rfl (T.app1S (α := Int) (K' := []) (b3.up H) b4 (rdI _) rfl rfl b7) ?_
 rintro I _ ⟨a7, rfl, am, b8⟩
 have b9 := b5.t am
 refine Nv I rfl (sr (Ni rfl (sr (Ni rfl (sr (Ni rfl (ssr (Ni rfl (Cw.block ?_)))))))))
 obtain ⟨cb, cc, hm⟩ := jn_e hm
 refine Cw.loop 29 91 [7, 10, 11, 12, 13] (fun m l w => ∃ J L M N z a b, CW.w b = w ∧ Le [2, 7, 8, 9, 10, 11, 12, 13, 14, 15, 16] a7 b ∧ l = [a, vI L, vI M, vI N, vI z] ∧ Ow b 2 [] [a] J ∧ Vm.spec_l3Of_l1 x0 x1 x2 a4 b6 cb m J L M N z = some r) _ ⟨([] : List Part), 0, 0, 0, 0, v1, a7, rfl, Le.refl _ _, rfl, ((((((o1.up l7).up ai).up a5).up ak).up H).up am), hm⟩ ?_
 rintro (_ | dv) _ _ σ ⟨J, L, M, N, z, a, b, rfl, O, rfl, an, hm⟩
 ·cases hm
 unfold Vm.spec_l3Of_l1 at hm
 have a9 := b9.t O
 have P := (((b2.up ak).up H).up am).up O
 have ao := b8.up O
 refine ssr (mi rfl (mv y rfl (Lw.ln a4 P.rd rfl (Lw.lt rfl (nl (cn hm (fun hm => ?_) fun hm => ?_))))))
 ·refine sk ?_
  obtain ⟨cd, ce, hm⟩ := jn_e hm
  refine Cw.join 35 91 [7, 10, 11, 12] (fun l w => ∃ Q S U V X A, CW.w A = w ∧ Le [2, 7, 8, 9, 10, 11, 12, 13, 14, 15, 16] b A ∧ l = [X, vI S, vI U, vI V] ∧ Ow A 2 [] [X] Q ∧ cd Q S U V = some r) ?_ ?_
  ·rintro _ _ σ ⟨Q, S, U, V, X, A, rfl, cf, rfl, cg, hm⟩
   rw [ce] at hm
   exact rg (mi rfl (Lw.add rfl (Ni rfl ((agm) ⟨Q, S, U, V, w64 (z + 1), X, A, rfl, (O.j cf).w, rfl, cg, hm⟩))))
  ·refine Cw.block (Cw.seq ?_)
   obtain ⟨ch, ci, hm⟩ := jn_e hm
   refine Cw.join 35 46 [46] (fun l w => ∃ ap Y, CW.w Y = w ∧ Le [] b Y ∧ l = [vB ap] ∧ ch ap = some r) ?_ ?_
   ·rintro _ _ σ ⟨ap, Y, rfl, f, rfl, hm⟩
    rw [ci] at hm
    have cj := a9.n f
    refine cn hm (fun hm => ?_) fun hm => ?_
    ·exact Cw.exit ((ag) ⟨J, L, M, N, a, Y, rfl, f.w, rfl, (an.up f), hm⟩)
    ·refine sk (Cw.seq (Cw.draw [2, 7, 8, 9, 10] [(0, 0), (1, 0), (2, 0), (3, 0), (4, 0), (5, 0), (6, 0), (7, 0), (8, 0), (9, 0), (10, 1), (11, 0), (12, 0), (13, 0), (14, 0), (15, 0), (16, 0), (17, 1), (18, 0), (19, 2), (20, 2), (21, 0)] mixed (by kernel_rfl) fun dw B => ?_))
     have h := cj.n B
     have Z := (P.up f).up B
     have aa := (ao.up f).up B
     refine Dv a rfl (Dv d rfl (Di rfl (Di rfl ?_)))
     obtain ⟨dx, ba, hm⟩ := ob hm
     have r95 := (e.ul h).cutV ba
     refine Mw.p rfl rfl (fun _ => R.sl (e.ul h) ba rfl (.inr rfl) (.inr rfl)) (Dv k rfl (Di rfl (Dv y rfl (Di rfl ?_))))
     obtain ⟨dy, aq, hm⟩ := ob hm
     refine Mw.p rfl rfl (fun _ => R.ix (α := Int) Z.rd aq rfl rfl rfl) (Mw.q rfl rfl (fun _ c => R.ld rfl rfl (cl_cell (Z.rd.at_ aq).1 rfl (Z.rd.at_ aq).int c)) ?_)
     obtain ⟨dz, bb, hm⟩ := ob hm
     have r102 := (F.ul h).cutV bb
     refine Mw.p rfl rfl (fun _ => R.sl (F.ul h) bb rfl (.inr rfl) (.inr rfl)) (Dv x rfl (Di rfl (Dv I rfl (Di rfl ?_))))
     obtain ⟨d0, ar, hm⟩ := ob hm
     refine Mw.p rfl rfl (fun _ => R.ix (α := Int) aa.rd ar rfl rfl rfl) (Mw.q rfl rfl (fun _ c => R.ld rfl rfl (cl_cell (aa.rd.at_ ar).1 rfl (aa.rd.at_ ar).int c)) ?_)
     obtain ⟨d1, bc, hm⟩ := ob hm
     have r109 := (G.ul h).cutV bc
     refine Mw.p rfl rfl (fun _ => R.sl (G.ul h) bc rfl (.inr rfl) (.inr rfl)) ?_
     obtain ⟨C, ck, hm⟩ := ob hm
     refine Mw.t rfl rfl (T.call rfl (p133 (k0 := 7) (k1 := 8) (k2 := 9) (k3 := 10) r95 r102 r109 ck)) ?_
     rintro _ _ ⟨d2, rfl, i, ⟨d3, d4, d5, d6, rfl, cl, cm, co, cp⟩⟩
     have cq := h.n i
     refine m0 i fun ct => ?_
     obtain ⟨cu, cv, hm⟩ := ob hm
     refine Mw.t rfl rfl (T.call rfl (p132 (K := [0]) (k0 := 11) (c0 := 2) (c1 := 7) (c2 := 8) (c3 := 9) (c4 := 10) (x1 := (Vm.Part.mk C.Clash C.Lines C.Old C.One C.Two)) (((an.up f).up B).up i) cl cm co cp rfl cv)) ?_
     rintro au _ ⟨av, rfl, D, ⟨_, rfl, be⟩⟩
     have aw := cq.t D
     refine mc ct D fun d7 => Hv au rfl (Mw.nil ?_)
     obtain ⟨cw, cx, hm⟩ := jn_e hm
     refine Cw.join 68 79 [7] (fun l w => ∃ ac ae af, CW.w af = w ∧ Le [11, 12, 13, 14, 15, 16] av af ∧ l = [ae] ∧ Ow af 11 [] [ae] ac ∧ cw ac = some r) ?_ ?_
     ·rintro _ _ σ ⟨ac, ae, af, rfl, ax, rfl, cy, hm⟩
      rw [cx] at hm
      have bg := ((Z.up i).up D).up ax
      have bh := ((aa.up i).up D).up ax
      refine sr (mi rfl (Lw.add rfl (Ni rfl (sr (mv y rfl (mi rfl ?_))))))
      obtain ⟨cz, bi, hm⟩ := ob hm
      refine Lw.r rfl (R.ix (α := Int) bg.rd bi rfl rfl rfl) (Lw.r rfl (R.ld rfl rfl (bg.rd.at_ bi).int) (Lw.add rfl (Ni rfl (rg (mv I rfl (mi rfl ?_))))))
      obtain ⟨c5, bj, hm⟩ := ob hm
      refine Lw.r rfl (R.ix (α := Int) bh.rd bj rfl rfl rfl) (Lw.r rfl (R.ld rfl rfl (bh.rd.at_ bj).int) (Lw.add rfl (Ni rfl ?_)))
      obtain ⟨c6, c7, c8, c9⟩ := cy.dyeO 2
      exact (ag) ⟨ac, w64 (z + 1), w64 (cz + 1), w64 (c5 + 1), ae, c6, c7, (((((f.j B).j i).j D).j ax).j c8).w, rfl, c9, hm⟩
     ·refine sr (mi rfl (mv d rfl (Lw.ln x0 (e.ul aw) rfl (Lw.lt rfl (nl (cn hm (fun hm => ?_) fun hm => ?_))))))
      ·refine rg (mv au rfl (mv d rfl (mi rfl ?_)))
       obtain ⟨ay, bk, hm⟩ := ob hm
       refine Lw.r rfl (R.ix (α := Str) (e.ul aw) bk rfl rfl rfl) (Lw.r rfl (R.ld rfl rfl ((e.ul aw).at_ bk).str) (Lw.t rfl (T.bsS (α := Str) (xs := [ay]) 12 [] (W := av) [vS ay] (Each.cons ((rdS _)) Each.nil) rfl) ?_))
       rintro bl _ ⟨d8, rfl, bm, bn⟩
       refine Lw.r rfl (R.bd (zs := [vB false, .slice none 0 0, .slice none 0 0, .slice none 0 0, .slice none 0 0]) (cs := [vB false, bl, .slice none 0 0, .slice none 0 0, .slice none 0 0]) [(1, bl)] rfl rfl rfl (bp_cons bn.oc rfl bp_nil)) (cr hm (fun _ => p132 (K := [0]) (k0 := 16) (c0 := 11) (c1 := 12) (c2 := 13) (c3 := 14) (c4 := 15) (x1 := (Vm.Part.mk false ([ay] : List Str) ([] : List Str) ([] : List Str) ([] : List Str))) (be.up bm) bn (owN 13 []) (owN 14 []) (owN 15 []) rfl) ?_)
       rintro da bp d9 hm db ⟨_, rfl, dc⟩
       refine Nv bp rfl ?_
       obtain ⟨dd, de, df, dg⟩ := dc.dyeO 11
       exact (ag) ⟨da, bp, dd, de, ((bm.j db).j df).w, rfl, dg, hm⟩
      ·exact sk ((ag) ⟨cu, au, av, rfl, Le.refl _ _, rfl, be, hm⟩)
   ·refine rg (mv y rfl (mi rfl ?_))
    obtain ⟨ea, bq, hm⟩ := ob hm
    refine Lw.r rfl (R.ix (α := Int) P.rd bq rfl rfl rfl) (Lw.r rfl (R.ld rfl rfl (P.rd.at_ bq).int) (Lw.lt rfl (mb rfl (bs hm (fun E hm => ?_) fun E hm => ?_))))
    ·exact psk 5 E rfl (Pb E rfl (nl ((ag) ⟨true, b, rfl, Le.refl _ _, rfl, hm⟩)))
    ·refine wak 5 E (mv I rfl (mi rfl ?_))
     obtain ⟨dh, br, hm⟩ := ob hm
     exact Lw.r rfl (R.ix (α := Int) ao.rd br rfl rfl rfl) (Lw.r rfl (R.ld rfl rfl (ao.rd.at_ br).int) (Lw.lt rfl (Pb E rfl (nl ((ag) ⟨decide ((dh : Int) < (0 : Int)), b, rfl, Le.refl _ _, rfl, hm⟩)))))
 ·refine Cw.exit ?_
  rw [cc] at hm
  refine sr (mv a rfl (Nv a rfl ?_))
  cases hm
  exact Cw.ret (ret1 rfl (Res.mk a9 ⟨a, rfl, an.s.sub rfl rfl⟩))
theorem p118 {x0 b x1 d x2 f k0 r} (h : Rd W K [b] x0) (i : Rd W K [d] x1) (k : Rd W K [f] x2) (hm : Vm.spec_l3Of x0 x1 x2 = some r) : Q1 118 [b, d, f] W [] fun W' v => ∃ a, v = a ∧ Ow W' k0 [] [a] r :=
 (c118 (h.view _) (i.view _) (k.view _) hm).ad (fk k0) fun _ _ ⟨a, e, x⟩ => ⟨a, e, x.back (fk_LL _)⟩
theorem c117 {x0 b r} (L : Rd W0 [0] [b] x0) (hm : Vm.spec_l3Text x0 = some r) : Q0 117 [b] W0 fun Wf v => ∃ A, v = .tuple [A, vB r.2].toArray ∧ OwS Wf LL [] [A] r.1 := by
 unfold Vm.spec_l3Text at hm
 refine CallR.of Tryz.func117 rfl rfl rfl rfl (sr (Gv (.slice none 0 0) rfl (Nb rfl (sr (Lw.t rfl (T.lit0 (α := Str) 2 []) ?_)))))
 rintro B _ ⟨C, rfl, M, N⟩
 have O := M.o
 refine Nv B rfl (ssr (Ni rfl (Cw.block ?_)))
 obtain ⟨P, Q, hm⟩ := jn_e hm
 refine Cw.loop 7 24 [2, 3, 4, 5] (fun m l w => ∃ f h x i k a d, CW.w d = w ∧ Le [2] C d ∧ l = [k, vB h, a, vI i] ∧ Ow d 3 [] [k] f ∧ Ow d 2 [] [a] x ∧ Vm.spec_l3Text_l1 x0 P m f h x i = some r) _ ⟨([] : List Str), false, ([] : List Str), 0, .slice none 0 0, B, C, rfl, Le.refl _ _, rfl, owN 3 [], N, hm⟩ ?_
 rintro (_ | Y) _ _ σ ⟨f, h, x, i, k, a, d, rfl, D, rfl, S, y, hm⟩
 ·cases hm
 unfold Vm.spec_l3Text_l1 at hm
 have z := O.t D
 refine ssr ?_
 have e := L.ul z
 refine mi rfl (mv b rfl (Lw.ln x0 e rfl (Lw.lt rfl (nl (cn hm (fun hm => ?_) fun hm => ?_)))))
 ·refine sk (Cw.seq (Cw.block (ssr (mv b rfl (mi rfl ?_)))))
  obtain ⟨Z, E, hm⟩ := ob hm
  refine Lw.r rfl (R.ix (α := Part) e E rfl rfl rfl) (Lw.fa rfl (Lw.r rfl (R.ld rfl rfl (Part.at0 (e.at_ E)).bool) (nl (cn hm (fun hm => ?_) fun hm => ?_))))
  ·refine sr (Gv (.slice none 0 0) rfl (Nb rfl ?_))
   cases hm
   exact Cw.ret (ret2 rfl rfl (Res.mk z ⟨.slice none 0 0, rfl, (owsN []).sub rfl rfl⟩))
  ·refine sk (rg (mv a rfl (mv b rfl (mi rfl ?_))))
   obtain ⟨aa, F, hm⟩ := ob hm
   refine Lw.r rfl (R.ix (α := Part) e F rfl rfl rfl) (Lw.fa rfl ?_)
   obtain ⟨ac, c23, r24⟩ := (Part.at1 (e.at_ F)).cell rfl
   refine Lw.r rfl (R.ld rfl rfl c23) ?_
   obtain ⟨U, V, hm⟩ := ob hm
   refine Lw.t rfl (T.appP (α := Str) y r24 rfl rfl V) ?_
   rintro G _ ⟨W, rfl, H, X⟩
   exact Nv G rfl (rg (mi rfl (Lw.add rfl (Ni rfl ((agm) ⟨f, h, U, w64 (i + 1), k, G, W, rfl, (D.j H).w, rfl, (S.up H), X, hm⟩)))))
 ·refine Cw.exit ?_
  rw [Q] at hm
  refine ssr (mv a rfl (ca hm (fun _ => p76 (K := [2]) y.rd) fun ae af hm I => ?_))
  have J := z.n I
  refine Lw.r rfl (R.not rfl) (nl (cn hm (fun hm => ?_) fun hm => ?_))
  ·refine sr (Gv (.slice none 0 0) rfl (Nb rfl ?_))
   cases hm
   exact Cw.ret (ret2 rfl rfl (Res.mk J ⟨.slice none 0 0, rfl, (owsN []).sub rfl rfl⟩))
  ·refine sk (sr (mv a rfl (Gv a rfl (Nb rfl ?_))))
   cases hm
   exact Cw.ret (ret2 rfl rfl (Res.mk J ⟨a, rfl, (y.up I).s.sub rfl rfl⟩))
theorem p117 {x0 b k0 r} (d : Rd W K [b] x0) (hm : Vm.spec_l3Text x0 = some r) : Q1 117 [b] W [] fun W' v => ∃ a, v = .tuple [a, vB r.2].toArray ∧ Ow W' k0 [] [a] r.1 :=
 (c117 (d.view _) hm).ad (fk k0) fun _ _ ⟨a, e, f⟩ => ⟨a, e, f.back (fk_LL _)⟩
theorem c100 {x0 H x1 I x2 J x3 r} (X : Rd W0 [0] [H] x0) (Y : Rd W0 [0] [I] x1) (Z : Rd W0 [0] [J] x2) (hm : Vm.spec_l6One x0 x1 x2 x3 = some r) : Q0 100 [H, I, J, vS x3] W0 fun Wf v => ∃ V, v = .tuple [V, vB r.2.1, vI r.2.2].toArray ∧ Rd Wf [0] [V] r.1 := by
 unfold Vm.spec_l6One at hm
 refine CallR.of Tryz.func100 rfl rfl rfl rfl (sr (Gv (.slice none 0 0) rfl (Gb rfl (Ni rfl (sr (mv H rfl (ms rfl (cr hm (fun _ => p115 X) ?_))))))))
 rintro D _ W3 hm l3 ⟨d, rfl, ac⟩
 have z := ac.sub (M := [0]) rfl
 have y := l3.o
 refine mv (.tuple [d, vB D.2].toArray) rfl (Lw.r rfl (R.ext (vs := [d, vB D.2]) (v := d) rfl rfl) (Lw.r rfl (R.ext (vs := [d, vB D.2]) (v := vB D.2) rfl rfl) (Gv d rfl (Nb rfl (sr (mv I rfl (ms rfl (cr hm (fun _ => p115 (Y.ul y)) ?_))))))))
 rintro E _ W9 hm l9 ⟨f, rfl, af⟩
 have F := af.sub (M := [0]) rfl
 have e := l9.o
 refine mv (.tuple [f, vB E.2].toArray) rfl (Lw.r rfl (R.ext (vs := [f, vB E.2]) (v := f) rfl rfl) (Lw.r rfl (R.ext (vs := [f, vB E.2]) (v := vB E.2) rfl rfl) (Gv f rfl (Nb rfl (sr (mv J rfl (ms rfl (cr hm (fun _ => p115 (Z.ul (y.trans e))) ?_))))))))
 rintro A _ ah hm ai ⟨h, rfl, aj⟩
 have G := aj.sub (M := [0]) rfl
 have a := ai.o
 refine mv (.tuple [h, vB A.2].toArray) rfl (Lw.r rfl (R.ext (vs := [h, vB A.2]) (v := h) rfl rfl) (Lw.r rfl (R.ext (vs := [h, vB A.2]) (v := vB A.2) rfl rfl) (Gv h rfl (Nb rfl (Cw.seq (Cw.block ?_))))))
 obtain ⟨ak, am, hm⟩ := jn_e hm
 refine Cw.join 37 47 [37] (fun l w => ∃ L N, CW.w N = w ∧ Le [] ah N ∧ l = [vB L] ∧ ak L = some r) ?_ ?_
 ·rintro _ _ σ ⟨L, N, rfl, an, rfl, hm⟩
  rw [am] at hm
  have b := an.o
  refine cn hm (fun hm => ?_) fun hm => ?_
  ·refine sr (mv h rfl (mb rfl (Gv h rfl (Gb rfl (Ni rfl ?_)))))
   cases hm
   exact Cw.ret (ret3 rfl rfl rfl (Res.mk (((y.trans e).trans a).trans b) ⟨h, rfl, (G.ul b)⟩))
  ·refine sr (mv h rfl (mb rfl (mv d rfl (mb rfl (ca hm (fun _ => p116 (G.ul b) (z.ul ((e.trans a).trans b))) fun bc O hm ao => ?_)))))
   have i := ao.o
   refine Nb rfl (cn hm (fun hm => ?_) fun hm => ?_)
   ·refine sr (mv f rfl (mb rfl (Gv f rfl (Gb rfl (Ni rfl ?_)))))
    cases hm
    exact Cw.ret (ret3 rfl rfl rfl (Res.mk ((((y.trans e).trans a).trans b).trans i) ⟨f, rfl, (F.ul ((a.trans b).trans i))⟩))
   ·obtain ⟨ap, aq, hm⟩ := jn_e hm
    refine Cw.join 58 64 [58] (fun l w => ∃ P Q, CW.w Q = w ∧ Le [] O Q ∧ l = [vB P] ∧ ap P = some r) ?_ ?_
    ·rintro _ _ σ ⟨P, Q, rfl, ar, rfl, hm⟩
     rw [aq] at hm
     have k := ar.o
     refine cn hm (fun hm => ?_) fun hm => ?_
     ·refine sr (mv d rfl (mb rfl (Gv d rfl (Gb rfl (Ni rfl ?_)))))
      cases hm
      exact Cw.ret (ret3 rfl rfl rfl (Res.mk (((((y.trans e).trans a).trans b).trans i).trans k) ⟨d, rfl, (z.ul ((((e.trans a).trans b).trans i).trans k))⟩))
     ·refine sr (mb rfl (Lw.r rfl (R.not rfl) (Nb rfl (cn hm (fun hm => ?_) fun hm => ?_))))
      ·refine sr (Gv (.slice none 0 0) rfl (Gb rfl (Ni rfl ?_)))
       cases hm
       exact Cw.ret (ret3 rfl rfl rfl (Res.mk (((((y.trans e).trans a).trans b).trans i).trans k) ⟨.slice none 0 0, rfl, (rdN (K := [0]))⟩))
      ·refine sk (sr (mv d rfl (mv f rfl (mv h rfl (cr hm (fun _ => p118 (k0 := 2) (z.ul ((((e.trans a).trans b).trans i).trans k)) (F.ul (((a.trans b).trans i).trans k)) (G.ul ((b.trans i).trans k))) ?_)))))
       rintro be bg bh hm au ⟨_, rfl, av⟩
       have S := au.o
       refine cr hm (fun _ => p117 (K := [2]) (k0 := 3) av.rd) ?_
       rintro B _ bi hm aw ⟨x, rfl, ax⟩
       have T := aw.o
       refine mv (.tuple [x, vB B.2].toArray) rfl (Lw.r rfl (R.ext (vs := [x, vB B.2]) (v := x) rfl rfl) (Lw.r rfl (R.ext (vs := [x, vB B.2]) (v := vB B.2) rfl rfl) (Gv x rfl (Nb rfl (ssr (mb rfl (Lw.r rfl (R.not rfl) (nl (cn hm (fun hm => ?_) fun hm => ?_)))))))))
       ·refine sr (mv d rfl (Gv d rfl (Gb rfl (Ni rfl ?_))))
        cases hm
        exact Cw.ret (ret3 rfl rfl rfl (Res.mk (((((((y.trans e).trans a).trans b).trans i).trans k).trans S).trans T) ⟨d, rfl, (z.ul ((((((e.trans a).trans b).trans i).trans k).trans S).trans T))⟩))
       ·refine sk (sr (mv x rfl (Gv x rfl (Gb rfl (Ni rfl ?_)))))
        obtain ⟨ay, az, a0, a1⟩ := dyeE _ 3
        have a2 : Rd (α := List Str) ay [0] [x] B.1 := by rw [a1]; exact (ax.rd.dye 3).sub (M := [0]) rfl
        have a3 := (((((((y.trans e).trans a).trans b).trans i).trans k).trans S).trans T).t a0
        cases hm
        rw [← az]
        exact Cw.ret (ret3 rfl rfl rfl (Res.mk a3 ⟨x, rfl, a2⟩))
    ·refine rg (mb rfl (Lw.r rfl (R.not rfl) (mb rfl (bs hm (fun C hm => ?_) fun C hm => ?_))))
     ·exact psk 2 C rfl (Pb C rfl (Nb rfl ((ag) ⟨true, O, rfl, Le.refl _ _, rfl, hm⟩)))
     ·exact wak 2 C (mb rfl (Lw.r rfl (R.not rfl) (Pb C rfl (Nb rfl ((ag) ⟨(!A.2), O, rfl, Le.refl _ _, rfl, hm⟩)))))
 ·refine sr (mv f rfl (mb rfl (mv d rfl (mb rfl (ca hm (fun _ => p116 (F.ul a) (z.ul (e.trans a))) fun a4 a6 hm U => ?_)))))
  have W := U.o
  refine Nb rfl (cn hm (fun hm => ?_) fun hm => ?_)
  ·exact sk ((ag) ⟨a4, a6, rfl, U, rfl, hm⟩)
  ·exact rg (mv f rfl (mb rfl (mv h rfl (mb rfl (ca hm (fun _ => p116 (F.ul (a.trans W)) (G.ul W)) fun a7 a8 hm a9 => Nb rfl ((ag) ⟨a7, a8, rfl, (U.j a9).w, rfl, hm⟩))))))
theorem p100 {x0 b x1 d x2 f x3 r} (h : Rd W K [b] x0) (i : Rd W K [d] x1) (k : Rd W K [f] x2) (hm : Vm.spec_l6One x0 x1 x2 x3 = some r) : Q1 100 [b, d, f, vS x3] W [] fun W' v => ∃ a, v = .tuple [a, vB r.2.1, vI r.2.2].toArray ∧ Rd W' (0 :: K) [a] r.1 :=
 (c100 (h.view _) (i.view _) (k.view _) hm).ad (fk 0) fun _ _ ⟨a, e, x⟩ => ⟨a, e, x.back rfl⟩
theorem c79 {x0 F x1 G x2 H r} (h0 : Rd W0 [0] [F] x0) (h1 : Rd W0 [0] [G] x1) (h2 : Rd W0 [0] [H] x2) (hm : Vm.spec_l6Of x0 x1 x2 = some r) : Q0 79 [F, G, H] W0 fun Wf v => ∃ u0 u1, v = .tuple [u0, u1].toArray ∧ OwS Wf [31] [] [u0] r.1 ∧ OwS Wf [32] [] [u1] r.2 := by
 unfold Vm.spec_l6Of at hm
 refine CallR.of Tryz.func79 rfl rfl rfl rfl (sr (Gv (.slice none 0 0) rfl (Nv (.slice none 0 0) rfl (sr (Lw.t rfl (T.lit0 (α := File) 2 []) ?_)))))
 rintro v1 _ ⟨W1, rfl, l1, o1⟩
 have a2 := l1.o
 refine Nv v1 rfl (sr (Lw.t rfl (T.lit0 (α := Clash) 3 []) ?_))
 rintro v3 _ ⟨W3, rfl, l3, o3⟩
 have I := a2.n l3
 refine Nv v3 rfl (sr (mv F rfl (mv G rfl (mv H rfl (cr hm (fun _ => p99 (h0.ul I) (h1.ul I) (h2.ul I)) ?_)))))
 rintro z9 x a0 hm ac ⟨_, rfl, bu⟩
 have L := bu.sub (M := [0]) rfl
 have N := I.n ac
 refine Nv x rfl (ssr (Ni rfl (Cw.block ?_)))
 obtain ⟨bv, bw, hm⟩ := jn_e hm
 refine Cw.loop 21 61 [8, 9, 11, 12, 13, 14] (fun m l w => ∃ O P Q d e a1 a3 a5 f, CW.w f = w ∧ Le [2, 3, 4] a0 f ∧ l = [d, e, vI Q, a1, a3, a5] ∧ Ow f 2 [] [d] O ∧ Ow f 3 [] [e] P ∧ Vm.spec_l6Of_l1 x0 x1 x2 z9 bv m O P Q = some r) _ ⟨([] : List File), ([] : List Clash), 0, v1, v3, undef, undef, undef, a0, rfl, Le.refl _ _, rfl, ((o1.up l3).up ac), (o3.up ac), hm⟩ ?_
 rintro (_ | c2) _ _ σ ⟨O, P, Q, d, e, a1, a3, a5, f, rfl, a6, rfl, a7, ae, hm⟩
 ·cases hm
 unfold Vm.spec_l6Of_l1 at hm
 have h := a6.s
 refine ssr ?_
 have af := L.ul h
 refine mi rfl (mv x rfl (Lw.ln z9 af rfl (Lw.lt rfl (nl (cn hm (fun hm => ?_) fun hm => ?_)))))
 ·refine sk ?_
  obtain ⟨bz, b0, hm⟩ := jn_e hm
  refine Cw.join 27 61 [8, 9, 12, 13, 14] (fun l w => ∃ S U V W ah ai aj i, CW.w i = w ∧ Le [2, 3, 4] f i ∧ l = [V, W, ah, ai, aj] ∧ Ow i 2 [] [V] S ∧ Ow i 3 [] [W] U ∧ bz S U = some r) ?_ ?_
  ·rintro _ _ σ ⟨S, U, V, W, ah, ai, aj, i, rfl, b1, rfl, b2, b3, hm⟩
   rw [b0] at hm
   exact rg (mi rfl (Lw.add rfl (Ni rfl ((agm) ⟨S, U, w64 (Q + 1), V, W, ah, ai, aj, i, rfl, (a6.j b1).w, rfl, b2, b3, hm⟩))))
  ·refine Cw.block (sr (mv F rfl (mv G rfl (mv H rfl (mv x rfl (mi rfl ?_))))))
   obtain ⟨c3, a8, hm⟩ := ob hm
   refine Lw.r rfl (R.ix (α := Str) af a8 rfl rfl rfl) (Lw.r rfl (R.ld rfl rfl (af.at_ a8).str) (cr hm (fun _ => p100 (h0.ul (N.trans h)) (h1.ul (N.trans h)) (h2.ul (N.trans h))) ?_))
   rintro a _ a9 hm k ⟨b, rfl, b4⟩
   have b5 := b4.sub (M := [0]) rfl
   have ak := h.n k
   refine mv (.tuple [b, vB a.2.1, vI a.2.2].toArray) rfl (Lw.r rfl (R.ext (vs := [b, vB a.2.1, vI a.2.2]) (v := b) rfl rfl) (Lw.r rfl (R.ext (vs := [b, vB a.2.1, vI a.2.2]) (v := vB a.2.1) rfl rfl) (Lw.r rfl (R.ext (vs := [b, vB a.2.1, vI a.2.2]) (v := vI a.2.2) rfl rfl) (Gv b rfl (Gb rfl (Ni rfl ?_))))))
   obtain ⟨b6, b7, hm⟩ := jn_e hm
   refine Cw.join 39 49 [9] (fun l w => ∃ y z A, CW.w A = w ∧ Le [3] a9 A ∧ l = [z] ∧ Ow A 3 [] [z] y ∧ b6 y = some r) ?_ ?_
   ·rintro _ _ σ ⟨y, z, A, rfl, X, rfl, ba, hm⟩
    rw [b7] at hm
    have bb := X.s
    have bc := (a7.up k).up X
    refine sr (mb rfl (nl (cn hm (fun hm => ?_) fun hm => ?_)))
    ·refine Cw.draw [2, 4] [(0, 0), (1, 0), (2, 0), (3, 0), (4, 1), (6, 0), (5, 2), (7, 2), (8, 0), (9, 2), (10, 2), (11, 0)] mixed (by kernel_rfl) fun c4 Y => ?_
     have be := Y.o
     refine Dv d rfl (Dv x rfl (Di rfl ?_))
     obtain ⟨B, am, hm⟩ := ob hm
     have an := L.ul ((ak.trans bb).trans be)
     refine Mw.p rfl rfl (fun _ => R.ix (α := Str) an am rfl rfl rfl) (Mw.q rfl rfl (fun _ c => R.ld rfl rfl (cl_cell (an.at_ am).1 rfl (an.at_ am).str c)) (Dv b rfl (Mw.t rfl rfl (T.lit0 (α := Str) 4 []) ?_)))
     rintro c5 _ ⟨c6, rfl, C, b8⟩
     have b9 := (bb.trans be).n C
     refine m0 C fun cb => ?_
     obtain ⟨cc, cd, hm⟩ := ob hm
     refine Mw.t rfl rfl (T.appP (α := Str) b8 (b5.ul b9) rfl rfl cd) ?_
     rintro Z _ ⟨c7, rfl, aa, bg⟩
     refine mc cb aa fun ce => Mw.p rfl rfl (fun _ => R.bd (zs := [vS ([] : Str), .slice none 0 0]) (cs := [vS B, Z]) [(0, vS B), (1, Z)] rfl rfl rfl (bp_cons rfl rfl (bp_cons bg.oc rfl bp_nil))) (Mw.t rfl rfl (T.bs 5 [.agg [vS B, Z].toArray] (cs := [vS B, Z]) rfl rfl (bsA rfl)) ?_)
     rintro _ _ ⟨c8, c9, rfl, rfl, D, cf⟩
     refine mc ce D fun cg => ?_
     obtain ⟨ch, ci, hm⟩ := ob hm
     refine Mw.t rfl rfl (T.app1 (α := File) (J := [4]) (K' := []) ((((bc.up Y).up C).up aa).up D) cf (File.own B cc (bg.up D).s) rfl rfl ci) ?_
     rintro bh _ ⟨cj, rfl, ao, ck⟩
     exact mc cg ao fun da => Hv bh rfl (Mw.nil ((ag) ⟨ch, y, bh, z, b, vB a.2.1, vI a.2.2, cj, rfl, ((((((k.j X).j Y).j C).j aa).j D).j ao).w, rfl, ck, (((((ba.up Y).up C).up aa).up D).up ao), hm⟩))
    ·exact sk ((ag) ⟨O, y, d, z, b, vB a.2.1, vI a.2.2, A, rfl, (k.j X).w, rfl, bc, ba, hm⟩)
   ·refine sr (mi rfl (Lw.gt rfl (nl (cn hm (fun hm => ?_) fun hm => ?_))))
    ·refine rg (mv e rfl (mv x rfl (mi rfl ?_)))
     obtain ⟨E, bi, hm⟩ := ob hm
     refine Lw.r rfl (R.ix (α := Str) (L.ul ak) bi rfl rfl rfl) (Lw.r rfl (R.ld rfl rfl ((L.ul ak).at_ bi).str) (mi rfl (Lw.r rfl (R.bd (zs := [vS ([] : Str), vI 0]) (cs := [vS E, vI a.2.2]) [(0, vS E), (1, vI a.2.2)] rfl rfl rfl (bp_cons rfl rfl (bp_cons rfl rfl bp_nil))) (Lw.t rfl (T.bs 6 [.agg [vS E, vI a.2.2].toArray] (cs := [vS E, vI a.2.2]) rfl rfl (bsA rfl)) ?_))))
     rintro _ _ ⟨db, dc, rfl, rfl, bj, cl⟩
     obtain ⟨cm, co, hm⟩ := ob hm
     refine Lw.t rfl (T.app1S (α := Clash) (K' := []) ((ae.up k).up bj) cl (Clash.rd (K := []) E a.2.2) rfl rfl co) ?_
     rintro bk _ ⟨cp, rfl, cq, ct⟩
     exact Nv bk rfl ((ag) ⟨cm, bk, cp, rfl, (bj.j cq).w, rfl, ct, hm⟩)
    ·exact sk ((ag) ⟨P, e, a9, rfl, Le.refl _ _, rfl, (ae.up k), hm⟩)
 ·refine Cw.exit ?_
  rw [bw] at hm
  refine sr (mv d rfl (mv e rfl (Gv d rfl (Nv e rfl ?_))))
  obtain ⟨dd, cu, bl, cv⟩ := a7.dyeO 31
  have cw := (N.trans h).t bl
  obtain ⟨de, cx, bm, cy⟩ := (ae.up bl).dyeO 32
  have cz := cw.t bm
  cases hm
  rw [← cx.trans (cu)]
  exact Cw.ret (ret2 rfl rfl (Res.mk cz ⟨d, e, rfl, (cv.up bm).s, cy.s⟩))
theorem p79 {x0 d x1 f x2 h k0 k1 r} (i : Rd W K [d] x0) (k : Rd W K [f] x1) (x : Rd W K [h] x2) (hm : Vm.spec_l6Of x0 x1 x2 = some r) : Q1 79 [d, f, h] W [] fun W' v => ∃ a b, v = .tuple [a, b].toArray ∧ Ow W' k0 [] [a] r.1 ∧ Ow W' k1 [] [b] r.2 :=
 CallR.adJ (J := []) (fun c => bif Nat.beq c 0 then 0 else bif Nat.beq c 31 then k0 else bif Nat.beq c 32 then k1 else 0) (c79 (i.view _) (k.view _) (x.view _) hm) fun _ _ ⟨a, b, e, y, z⟩ => ⟨a, b, e, y.one1.backN rfl, z.one1.backN rfl⟩
theorem c45 {x0 e x1 f x2 h r} (A : Rd W0 [0] [e] x0) (P : Rd W0 [0] [f] x1) (Q : Rd W0 [0] [h] x2) (hm : Vm.spec_l6Join x0 x1 x2 = some r) : Q0 45 [e, f, h] W0 fun Wf v => ∃ B C, v = .tuple [B, C].toArray ∧ OwS Wf [31] [] [B] r.1 ∧ OwS Wf [32] [] [C] r.2 := by
 unfold Vm.spec_l6Join at hm
 refine CallR.of Tryz.func45 rfl rfl rfl rfl (sr (Gv (.slice none 0 0) rfl (Nv (.slice none 0 0) rfl (sr (mv e rfl (mv f rfl (mv h rfl (cr hm (fun _ => p79 (k0 := 2) (k1 := 3) A P Q) ?_))))))))
 rintro S _ D hm U ⟨a, b, rfl, E, F⟩
 have V := U.o
 refine mv (.tuple [a, b].toArray) rfl (Lw.r rfl (R.ext (vs := [a, b]) (v := a) rfl rfl) (Lw.r rfl (R.ext (vs := [a, b]) (v := b) rfl rfl) (Gv a rfl (Nv b rfl (Cw.seq ?_)))))
 obtain ⟨W, X, hm⟩ := jn_e hm
 refine Cw.join 17 24 [24] (fun l w => ∃ i k, CW.w k = w ∧ Le [] D k ∧ l = [vB i] ∧ W i = some r) ?_ ?_
 ·rintro _ _ σ ⟨i, k, rfl, y, rfl, hm⟩
  rw [X] at hm
  have z := V.n y
  refine cn hm (fun hm => ?_) fun hm => ?_
  ·refine sr (mv e rfl (cr hm (fun _ => p78 (k0 := 4) (A.ul z)) ?_))
   rintro ay G az hm Y ⟨_, rfl, Z⟩
   have aa := z.n Y
   refine Lw.r rfl (R.bd (zs := [vS ([] : Str), vI 0]) (cs := [vS ([] : Str), vI 4]) [(1, vI 4)] rfl rfl rfl (bp_cons rfl rfl bp_nil)) (Lw.t rfl (T.bsO (α := Clash) (J := []) (xs := [Vm.Clash.mk ([] : Str) 4]) 5 [.agg [vS ([] : Str), vI 4].toArray] (bsL [[vS ([] : Str), vI 4]] (mapa rfl mapn) (OwL.cons (x := (Vm.Clash.mk ([] : Str) 4)) (OwS.atm (K := []) (Clash.rd (K := []) ([] : Str) 4)) OwL.nil)) rfl) ?_)
   rintro H _ ⟨a0, rfl, I, ac⟩
   have ae := aa.n I
   refine Gv G rfl (Nv H rfl ?_)
   obtain ⟨a1, af, L, ah⟩ := (Z.up I).dyeO 31
   have ai := ae.t L
   obtain ⟨a2, aj, M, ak⟩ := (ac.up L).dyeO 32
   have am := ai.t M
   cases hm
   rw [← aj.trans (af)]
   exact Cw.ret (ret2 rfl rfl (Res.mk am ⟨G, H, rfl, (ah.up M).s, ak.s⟩))
  ·refine sk (sr (mv a rfl (mv b rfl (Gv a rfl (Nv b rfl ?_)))))
   obtain ⟨a3, an, N, ao⟩ := (E.up y).dyeO 31
   have ap := z.t N
   obtain ⟨a5, aq, O, ar⟩ := ((F.up y).up N).dyeO 32
   have au := ap.t O
   cases hm
   rw [← aq.trans (an)]
   exact Cw.ret (ret2 rfl rfl (Res.mk au ⟨a, b, rfl, (ao.up O).s, ar.s⟩))
 ·refine rg (mv b rfl (Lw.ln S.2 F.rd rfl (Lw.eq rfl (mb rfl (bs hm (fun d hm => ?_) fun d hm => ?_)))))
  ·exact wak 3 d (mv a rfl (ca hm (fun _ => p40 (K := [2]) E.rd) fun av aw hm ax => Lw.r rfl (R.not rfl) (Pb d rfl (nl ((ag) ⟨(!av), aw, rfl, ax, rfl, hm⟩)))))
  ·exact psk 3 d rfl (Pb d rfl (nl ((ag) ⟨false, D, rfl, Le.refl _ _, rfl, hm⟩)))
theorem p45 {x0 d x1 f x2 h k0 k1 r} (i : Rd W K [d] x0) (k : Rd W K [f] x1) (x : Rd W K [h] x2) (hm : Vm.spec_l6Join x0 x1 x2 = some r) : Q1 45 [d, f, h] W [] fun W' v => ∃ a b, v = .tuple [a, b].toArray ∧ Ow W' k0 [] [a] r.1 ∧ Ow W' k1 [] [b] r.2 :=
 CallR.adJ (J := []) (fun c => bif Nat.beq c 0 then 0 else bif Nat.beq c 31 then k0 else bif Nat.beq c 32 then k1 else 0) (c45 (i.view _) (k.view _) (x.view _) hm) fun _ _ ⟨a, b, e, y, z⟩ => ⟨a, b, e, y.one1.backN rfl, z.one1.backN rfl⟩
theorem c44 {x0 y a6 x1 x2 r} (h0 : Rd W0 [0] [y, a6] x0) (hm : Vm.spec_l7Head x0 x1 x2 = some r) : Q0 44 [.agg [y, a6].toArray, vS x1, vI x2] W0 fun Wf v => ∃ a8 a9, v = .agg [a8, a9].toArray ∧ Rd Wf [0] [a8] r.Commits ∧ Rd Wf [0] [a9] r.Heads := by
 unfold Vm.spec_l7Head at hm
 obtain ⟨ds, dt, ba, ak, I⟩ := Repo.split h0
 simp only [List.cons.injEq, and_true, true_and] at ba
 obtain ⟨rfl, rfl⟩ := ba
 refine CallR.of Tryz.func44 rfl rfl rfl rfl (sr (bo 2 rfl fun g1 W1 l1 b1 => ?_))
 have a2 := l1.o
 refine al 3 [.slice none 0 0, .slice none 0 0] fun g3 W3 l3 b3 => ?_
 have a4 := a2.n l3
 refine nl (sr (fl (b1.up l3) rfl (Lw.r rfl (R.bd (zs := [.slice none 0 0, .slice none 0 0]) (cs := [y, .slice none 0 0]) [(0, y)] rfl rfl rfl (bp_cons ak.oc rfl bp_nil)) (al 4 [.slice none 0 0, .slice none 0 0] fun J W6 l6 b6 => ?_))))
 have a7 := a4.n l6
 refine sta b6 (oc_cons ak.oc (oc_cons rfl oc_nil)) fun bc l10 cd => ?_
 have be := a7.t l10
 refine nl (sr (Nb rfl (ssr (Ni rfl (Cw.block ?_)))))
 obtain ⟨ce, cf, hm⟩ := jn_e hm
 refine Cw.loop 13 57 [8, 9] (fun m l w => ∃ L N b z d A a, CW.w a = w ∧ Le [4, 5] bc a ∧ l = [vB L, vI N] ∧ Rd a [0] [d] b ∧ Ow a 5 [] [A] z ∧ Bx a 4 J [d, A] ∧ Vm.spec_l7Head_l1 x0 x1 x2 ce m L N b z = some r) _ ⟨false, 0, x0.Commits, ([] : List Head), y, .slice none 0 0, bc, rfl, Le.refl _ _, rfl, (ak.ul be), owN 5 [], cd, hm⟩ ?_
 rintro (_ | dz) _ _ σ ⟨L, N, b, z, d, A, a, rfl, O, rfl, r18, P, Q, hm⟩
 ·cases hm
 unfold Vm.spec_l7Head_l1 at hm
 have ao := be.t O
 have S := (((b1.up l3).up l6).up l10).up O
 refine ssr ?_
 have ap := I.ul ao
 refine mi rfl (fl S rfl (Lw.ln x0.Heads ap rfl (Lw.lt rfl (nl (cn hm (fun hm => ?_) fun hm => ?_)))))
 ·refine sk ?_
  obtain ⟨cg, ch, hm⟩ := jn_e hm
  refine Cw.join 20 57 [8] (fun l w => ∃ U V W X Y e, CW.w e = w ∧ Le [4, 5] a e ∧ l = [vB U] ∧ Rd e [0] [X] V ∧ Ow e 5 [] [Y] W ∧ Bx e 4 J [X, Y] ∧ cg U V W = some r) ?_ ?_
  ·rintro _ _ σ ⟨U, V, W, X, Y, e, rfl, ci, rfl, r35, cj, ck, hm⟩
   rw [ch] at hm
   exact rg (mi rfl (Lw.add rfl (Ni rfl ((agm) ⟨U, w64 (N + 1), V, W, X, Y, e, rfl, (O.j ci).w, rfl, r35, cj, ck, hm⟩))))
  ·refine Cw.block ?_
   obtain ⟨cl, cm, hm⟩ := jn_e hm
   refine Cw.join 20 39 [8] (fun l w => ∃ B C Z D aa f, CW.w f = w ∧ Le [4, 5] a f ∧ l = [vB B] ∧ Rd f [0] [D] C ∧ Ow f 5 [] [aa] Z ∧ Bx f 4 J [D, aa] ∧ cl B C Z = some r) ?_ ?_
   ·rintro _ _ σ ⟨B, C, Z, D, aa, f, rfl, E, rfl, r48, bg, aq, hm⟩
    rw [cm] at hm
    have ar := ao.t E
    refine sr (fl (S.up E) rfl (mi rfl ?_))
    obtain ⟨d0, bh, hm⟩ := ob hm
    refine Lw.r rfl (R.ix (α := Head) (I.ul ar) bh rfl rfl rfl) (Lw.fa rfl (Lw.r rfl (R.ld rfl rfl (Head.at0 ((I.ul ar).at_ bh)).str) (ms rfl (Lw.sne rfl (nl (cn hm (fun hm => ?_) fun hm => ?_))))))
    ·refine Cw.draw [5] [(0, 0), (1, 1), (2, 0), (3, 1), (4, 0), (5, 0), (6, 1), (7, 2), (8, 2), (9, 0), (10, 3)] mixed (by kernel_rfl) fun d1 h => ?_
     have bi := h.o
     refine Dfl (aq.up h) rfl rfl rfl (Dfl ((S.up E).up h) rfl rfl rfl (Di rfl ?_))
     obtain ⟨i, au, hm⟩ := ob hm
     have av := I.ul (ar.trans bi)
     refine Mw.p rfl rfl (fun _ => R.ix (α := Head) av au rfl rfl rfl) ?_
     obtain ⟨x71, c72, _, r73⟩ := (av.at_ au).cells
     obtain rfl := Head.split r73
     refine Mw.q rfl rfl (fun _ c => R.lda (cl_cells (av.at_ au).1 rfl c72 c) rfl rfl) (Mw.t rfl rfl (T.bs 6 [.agg [vS i.Name, vI i.At].toArray] (cs := [vS i.Name, vI i.At]) rfl rfl (bsA rfl)) ?_)
     rintro _ _ ⟨d2, d3, rfl, rfl, F, co⟩
     have cp := bi.n F
     refine m0 F fun cq => ?_
     obtain ⟨ct, cu, hm⟩ := ob hm
     refine Mw.t rfl rfl (T.app1S (α := Head) (K' := []) ((bg.up h).up F) co (Head.rd (K := []) i.Name i.At) rfl rfl cu) ?_
     rintro bj _ ⟨d4, rfl, ac, bk⟩
     have cv := cp.t ac
     refine mc cq ac fun d5 => Df rfl (Mw.lu rfl (T.st (j := 1) (v := bj) (((aq.up h).up F).up ac) rfl rfl bk.oc rfl rfl) ?_)
     rintro _ _ ⟨cw, rfl, aw, cx⟩
     have cy := cv.t aw
     exact Mw.nil ((ag) ⟨B, C, ct, D, bj, cw, rfl, ((((E.j h).j F).j ac).j aw).w, rfl, (r48.ul cy), (bk.up aw), cx, hm⟩)
    ·exact sk ((ag) ⟨B, C, Z, D, aa, f, rfl, E, rfl, r48, bg, aq, hm⟩)
   ·obtain ⟨cz, c0, hm⟩ := jn_e hm
    refine Cw.join 20 31 [31] (fun l w => ∃ ax ae, CW.w ae = w ∧ Le [] a ae ∧ l = [vB ax] ∧ cz ax = some r) ?_ ?_
    ·rintro _ _ σ ⟨ax, ae, rfl, k, rfl, hm⟩
     rw [c0] at hm
     have bl := k.o
     have ay := Q.up k
     refine cn hm (fun hm => ?_) fun hm => ?_
     ·refine sr (fl ay rfl (ms rfl (mi rfl (Lw.r rfl (R.bd (zs := [vS ([] : Str), vI 0]) (cs := [vS x1, vI x2]) [(0, vS x1), (1, vI x2)] rfl rfl rfl (bp_cons rfl rfl (bp_cons rfl rfl bp_nil))) (Lw.t rfl (T.bs 7 [.agg [vS x1, vI x2].toArray] (cs := [vS x1, vI x2]) rfl rfl (bsA rfl)) ?_)))))
      rintro _ _ ⟨d6, d7, rfl, rfl, af, c1⟩
      have c2 := bl.n af
      obtain ⟨c3, c4, hm⟩ := ob hm
      refine Lw.t rfl (T.app1S (α := Head) (K' := []) ((P.up k).up af) c1 (Head.rd (K := []) x1 x2) rfl rfl c4) ?_
      rintro bm _ ⟨d8, rfl, az, bn⟩
      have c5 := c2.t az
      refine Lw.fa rfl (Lw.u (T.st (j := 1) (v := bm) ((ay.up af).up az) rfl rfl bn.oc rfl rfl) ?_)
      rintro _ _ ⟨c6, rfl, a0, c7⟩
      have c8 := c5.t a0
      exact nl (rg (Nb rfl ((ag) ⟨true, b, c3, d, bm, c6, rfl, (((k.j af).j az).j a0).w, rfl, (r18.ul c8), (bn.up a0), c7, hm⟩)))
     ·exact sk ((ag) ⟨L, b, z, d, A, ae, rfl, k.w, rfl, (r18.ul bl), (P.up k), ay, hm⟩)
    ·refine rg (mb rfl (Lw.r rfl (R.not rfl) (mb rfl (bs hm (fun G hm => ?_) fun G hm => ?_))))
     ·refine wak 8 G (fl S rfl (mi rfl ?_))
      obtain ⟨c9, bp, hm⟩ := ob hm
      exact Lw.r rfl (R.ix (α := Head) ap bp rfl rfl rfl) (Lw.fa rfl (Lw.r rfl (R.ld rfl rfl (Head.at0 (ap.at_ bp)).str) (ms rfl (Lw.r rfl (R.sge rfl rfl) (Pb G rfl (nl ((ag) ⟨(!Op.bytesLess c9.Name x1), a, rfl, Le.refl _ _, rfl, hm⟩)))))))
     ·exact psk 8 G rfl (Pb G rfl (nl ((ag) ⟨false, a, rfl, Le.refl _ _, rfl, hm⟩)))
 ·refine Cw.exit ?_
  rw [cf] at hm
  obtain ⟨da, db, hm⟩ := jn_e hm
  refine Cw.join 58 67 [] (fun l w => ∃ a1 ah ai H x, CW.w x = w ∧ Le [4, 5] a x ∧ l = [] ∧ Rd x [0] [ai] a1 ∧ Ow x 5 [] [H] ah ∧ Bx x 4 J [ai, H] ∧ da a1 ah = some r) ?_ ?_
  ·rintro _ _ σ ⟨a1, ah, ai, H, x, rfl, bq, rfl, r131, br, dc, hm⟩
   rw [db] at hm
   have dd := ao.t bq
   refine sr (la dc (sta ((((b3.up l6).up l10).up O).up bq) (oc_cons r131.oc (oc_cons br.oc oc_nil)) fun d9 bu de => ?_))
   have bv := bu.s
   refine nl ?_
   obtain ⟨df, dg, bw, dh⟩ := dyeE _ 5
   have di : Rd (α := List Vm.Head) df [0] [H] ah := by rw [dh]; exact ((br.up bu).rd.dye 5).sub (M := [0]) rfl
   have bz := bw.s
   cases hm
   rw [← dg]
   exact Cw.ret (retA1 rfl (de.up bw) (Res.mk ((dd.trans bv).trans bz) ⟨ai, H, rfl, (r131.ul (bv.trans bz)), di⟩))
  ·refine sr (mb rfl (Lw.r rfl (R.not rfl) (nl (cn hm (fun hm => ?_) fun hm => ?_))))
   ·refine rg (fl Q rfl (ms rfl (mi rfl (Lw.r rfl (R.bd (zs := [vS ([] : Str), vI 0]) (cs := [vS x1, vI x2]) [(0, vS x1), (1, vI x2)] rfl rfl rfl (bp_cons rfl rfl (bp_cons rfl rfl bp_nil))) (Lw.t rfl (T.bs 8 [.agg [vS x1, vI x2].toArray] (cs := [vS x1, vI x2]) rfl rfl (bsA rfl)) ?_)))))
    rintro _ _ ⟨ea, eb, rfl, rfl, aj, dj⟩
    have dk := aj.o
    obtain ⟨dl, dm, hm⟩ := ob hm
    refine Lw.t rfl (T.app1S (α := Head) (K' := []) (P.up aj) dj (Head.rd (K := []) x1 x2) rfl rfl dm) ?_
    rintro b0 _ ⟨ec, rfl, a3, b2⟩
    have dn := dk.t a3
    refine Lw.fa rfl (Lw.u (T.st (j := 1) (v := b0) ((Q.up aj).up a3) rfl rfl b2.oc rfl rfl) ?_)
    rintro _ _ ⟨dp, rfl, a5, dq⟩
    have dr := dn.t a5
    exact nl ((ag) ⟨b, dl, d, b0, dp, rfl, ((aj.j a3).j a5).w, rfl, (r18.ul dr), (b2.up a5), dq, hm⟩)
   ·exact sk ((ag) ⟨b, z, d, A, a, rfl, Le.refl _ _, rfl, r18, P, Q, hm⟩)
theorem p44 {x0 d f x1 x2 r} (h : Rd W K [d, f] x0) (hm : Vm.spec_l7Head x0 x1 x2 = some r) : Q1 44 [.agg [d, f].toArray, vS x1, vI x2] W [] fun W' v => ∃ a b, v = .agg [a, b].toArray ∧ Rd W' (0 :: K) [a] r.Commits ∧ Rd W' (0 :: K) [b] r.Heads :=
 (c44 (h.view _) hm).ad (fk 0) fun _ _ ⟨a, b, e, i, k⟩ => ⟨a, b, e, i.back rfl, k.back rfl⟩
end Go.Sx
