/- Walks: each function answers as its model, printed by a program of ours. Conditions: the arguments read as they are given. -/
import Derived.Test.YtokbhelngoeblaaGreatDoorGTs
import Derived.Test.YtokbhelngoeblaaGreatDoorGM1
import Derived.Test.YtokbhelngoeblaaGreatDoorGW0
import Derived.Test.YtokbhelngoeblaaGreatDoorGW1
import Derived.Test.YtokbhelngoeblaaGreatDoorGW4
namespace Go.Sx
open Go Go.Proofs Go.Vm Rp
set_option linter.unusedVariables false
set_option linter.unusedSimpArgs false
variable {W W0 : CW} {K : List Nat}
theorem c176 {x0 H x1 I x2 J x3 r} (X : Rd W0 [0] [H] x0) (Y : Rd W0 [0] [I] x1) (Z : Rd W0 [0] [J] x2) (hm : Vm.zh5 x0 x1 x2 x3 = some r) : Q0 176 [H, I, J, vS x3] W0 fun Wf v => ∃ V, v = .tuple [V, vB r.2.1, vI r.2.2].toArray ∧ Rd Wf [0] [V] r.1 := by
 unfold Vm.zh5 at hm
 refine zaj.of Tryz.func176 rfl rfl rfl rfl (sr (Gv (.slice none 0 0) rfl (Gb rfl (Ni rfl (sr (mv H rfl (ms rfl (cr hm (fun _ => p196 X) ?_))))))))
 rintro D _ W3 hm l3 ⟨d, rfl, ac⟩
 have z := ac.sub (M := [0]) rfl
 have y := l3.o
 refine mv (.tuple [d, vB D.2].toArray) rfl (Lw.r rfl (R.ext (vs := [d, vB D.2]) (v := d) rfl rfl) (Lw.r rfl (R.ext (vs := [d, vB D.2]) (v := vB D.2) rfl rfl) (Gv d rfl (Nb rfl (sr (mv I rfl (ms rfl (cr hm (fun _ => p196 (Y.ul y)) ?_))))))))
 rintro E _ W9 hm l9 ⟨f, rfl, af⟩
 have F := af.sub (M := [0]) rfl
 have e := l9.o
 refine mv (.tuple [f, vB E.2].toArray) rfl (Lw.r rfl (R.ext (vs := [f, vB E.2]) (v := f) rfl rfl) (Lw.r rfl (R.ext (vs := [f, vB E.2]) (v := vB E.2) rfl rfl) (Gv f rfl (Nb rfl (sr (mv J rfl (ms rfl (cr hm (fun _ => p196 (Z.ul (y.trans e))) ?_))))))))
 rintro A _ ah hm ai ⟨h, rfl, aj⟩
 have G := aj.sub (M := [0]) rfl
 have a := ai.o
 refine mv (.tuple [h, vB A.2].toArray) rfl (Lw.r rfl (R.ext (vs := [h, vB A.2]) (v := h) rfl rfl) (Lw.r rfl (R.ext (vs := [h, vB A.2]) (v := vB A.2) rfl rfl) (Gv h rfl (Nb rfl (Cw.seq (Cw.block ?_))))))
 obtain ⟨ak, am, hm⟩ := zaS hm
 refine Cw.join 37 47 [37] (fun l w => ∃ L N, CW.w N = w ∧ Le [] ah N ∧ l = [vB L] ∧ ak L = some r) ?_ ?_
 ·rintro _ _ σ ⟨L, N, rfl, an, rfl, hm⟩
  rw [am] at hm
  have b := an.o
  refine cn hm (fun hm => ?_) fun hm => ?_
  ·refine sr (mv h rfl (mb rfl (Gv h rfl (Gb rfl (Ni rfl ?_)))))
   cases hm
   exact Cw.ret (zxs rfl rfl rfl (Res.mk (((y.trans e).trans a).trans b) ⟨h, rfl, (G.ul b)⟩))
  ·refine sr (mv h rfl (mb rfl (mv d rfl (mb rfl (ca hm (fun _ => p197 (G.ul b) (z.ul ((e.trans a).trans b))) fun bc O hm ao => ?_)))))
   have i := ao.o
   refine Nb rfl (cn hm (fun hm => ?_) fun hm => ?_)
   ·refine sr (mv f rfl (mb rfl (Gv f rfl (Gb rfl (Ni rfl ?_)))))
    cases hm
    exact Cw.ret (zxs rfl rfl rfl (Res.mk ((((y.trans e).trans a).trans b).trans i) ⟨f, rfl, (F.ul ((a.trans b).trans i))⟩))
   ·obtain ⟨ap, aq, hm⟩ := zaS hm
    refine Cw.join 58 64 [58] (fun l w => ∃ P Q, CW.w Q = w ∧ Le [] O Q ∧ l = [vB P] ∧ ap P = some r) ?_ ?_
    ·rintro _ _ σ ⟨P, Q, rfl, ar, rfl, hm⟩
     rw [aq] at hm
     have k := ar.o
     refine cn hm (fun hm => ?_) fun hm => ?_
     ·refine sr (mv d rfl (mb rfl (Gv d rfl (Gb rfl (Ni rfl ?_)))))
      cases hm
      exact Cw.ret (zxs rfl rfl rfl (Res.mk (((((y.trans e).trans a).trans b).trans i).trans k) ⟨d, rfl, (z.ul ((((e.trans a).trans b).trans i).trans k))⟩))
     ·refine sr (mb rfl (Lw.r rfl (R.not rfl) (Nb rfl (cn hm (fun hm => ?_) fun hm => ?_))))
      ·refine sr (Gv (.slice none 0 0) rfl (Gb rfl (Ni rfl ?_)))
       cases hm
       exact Cw.ret (zxs rfl rfl rfl (Res.mk (((((y.trans e).trans a).trans b).trans i).trans k) ⟨.slice none 0 0, rfl, (rdN (K := [0]))⟩))
      ·refine sk (sr (mv d rfl (mv f rfl (mv h rfl (cr hm (fun _ => p199 (k0 := 2) (z.ul ((((e.trans a).trans b).trans i).trans k)) (F.ul (((a.trans b).trans i).trans k)) (G.ul ((b.trans i).trans k))) ?_)))))
       rintro be bg bh hm au ⟨_, rfl, av⟩
       have S := au.o
       refine cr hm (fun _ => p198 (K := [2]) (k0 := 3) av.rd) ?_
       rintro B _ bi hm aw ⟨x, rfl, ax⟩
       have T := aw.o
       refine mv (.tuple [x, vB B.2].toArray) rfl (Lw.r rfl (R.ext (vs := [x, vB B.2]) (v := x) rfl rfl) (Lw.r rfl (R.ext (vs := [x, vB B.2]) (v := vB B.2) rfl rfl) (Gv x rfl (Nb rfl (ssr (mb rfl (Lw.r rfl (R.not rfl) (nl (cn hm (fun hm => ?_) fun hm => ?_)))))))))
       ·refine sr (mv d rfl (Gv d rfl (Gb rfl (Ni rfl ?_))))
        cases hm
        exact Cw.ret (zxs rfl rfl rfl (Res.mk (((((((y.trans e).trans a).trans b).trans i).trans k).trans S).trans T) ⟨d, rfl, (z.ul ((((((e.trans a).trans b).trans i).trans k).trans S).trans T))⟩))
       ·refine sk (sr (mv x rfl (Gv x rfl (Gb rfl (Ni rfl ?_)))))
        obtain ⟨ay, az, a0, a1⟩ := zp4 _ 3
        have a2 : Rd (α := List Str) ay [0] [x] B.1 := by rw [a1]; exact (ax.rd.dye 3).sub (M := [0]) rfl
        have a3 := (((((((y.trans e).trans a).trans b).trans i).trans k).trans S).trans T).t a0
        cases hm
        rw [← az]
        exact Cw.ret (zxs rfl rfl rfl (Res.mk a3 ⟨x, rfl, a2⟩))
    ·refine rg (mb rfl (Lw.r rfl (R.not rfl) (mb rfl (bs hm (fun C hm => ?_) fun C hm => ?_))))
     ·exact psk 2 C rfl (Pb C rfl (Nb rfl ((ag) ⟨true, O, rfl, Le.refl _ _, rfl, hm⟩)))
     ·exact wak 2 C (mb rfl (Lw.r rfl (R.not rfl) (Pb C rfl (Nb rfl ((ag) ⟨(!A.2), O, rfl, Le.refl _ _, rfl, hm⟩)))))
 ·refine sr (mv f rfl (mb rfl (mv d rfl (mb rfl (ca hm (fun _ => p197 (F.ul a) (z.ul (e.trans a))) fun a4 a6 hm U => ?_)))))
  have W := U.o
  refine Nb rfl (cn hm (fun hm => ?_) fun hm => ?_)
  ·exact sk ((ag) ⟨a4, a6, rfl, U, rfl, hm⟩)
  ·exact rg (mv f rfl (mb rfl (mv h rfl (mb rfl (ca hm (fun _ => p197 (F.ul (a.trans W)) (G.ul W)) fun a7 a8 hm a9 => Nb rfl ((ag) ⟨a7, a8, rfl, (U.j a9).w, rfl, hm⟩))))))
theorem p176 {x0 b x1 d x2 f x3 r} (h : Rd W K [b] x0) (i : Rd W K [d] x1) (k : Rd W K [f] x2) (hm : Vm.zh5 x0 x1 x2 x3 = some r) : Q1 176 [b, d, f, vS x3] W [] fun W' v => ∃ a, v = .tuple [a, vB r.2.1, vI r.2.2].toArray ∧ Rd W' (0 :: K) [a] r.1 :=
 (c176 (h.view _) (i.view _) (k.view _) hm).ad (fk 0) fun _ _ ⟨a, e, x⟩ => ⟨a, e, x.back rfl⟩
theorem c138 {x0 G x1 H x2 I r} (h0 : Rd W0 [0] [G] x0) (h1 : Rd W0 [0] [H] x1) (h2 : Rd W0 [0] [I] x2) (hm : Vm.zjs x0 x1 x2 = some r) : Q0 138 [G, H, I] W0 fun Wf v => ∃ u0 u1, v = .tuple [u0, u1].toArray ∧ OwS Wf [31] [] [u0] r.1 ∧ OwS Wf [32] [] [u1] r.2 := by
 unfold Vm.zjs at hm
 refine zaj.of Tryz.func138 rfl rfl rfl rfl (sr (Gv (.slice none 0 0) rfl (Nv (.slice none 0 0) rfl (sr (Lw.t rfl (T.lit0 (α := File) 2 []) ?_)))))
 rintro v1 _ ⟨W1, rfl, l1, o1⟩
 have a2 := l1.o
 refine Nv v1 rfl (sr (Lw.t rfl (T.lit0 (α := Clash) 3 []) ?_))
 rintro v3 _ ⟨W3, rfl, l3, o3⟩
 have L := a2.n l3
 refine Nv v3 rfl (sr (mv G rfl (mv H rfl (mv I rfl (cr hm (fun _ => p175 (h0.ul L) (h1.ul L) (h2.ul L)) ?_)))))
 rintro z9 y a0 hm ac ⟨_, rfl, bu⟩
 have N := bu.sub (M := [0]) rfl
 have O := L.n ac
 refine Nv y rfl (ssr (Ni rfl (Cw.block ?_)))
 obtain ⟨bv, bw, hm⟩ := zaS hm
 refine Cw.loop 21 61 [8, 9, 11, 12, 13, 14] (fun m l w => ∃ P Q S d e a1 a3 a5 f, CW.w f = w ∧ Le [2, 3, 4] a0 f ∧ l = [d, e, vI S, a1, a3, a5] ∧ Ow f 2 [] [d] P ∧ Ow f 3 [] [e] Q ∧ Vm.ze1 x0 x1 x2 z9 bv m P Q S = some r) _ ⟨([] : List File), ([] : List Clash), 0, v1, v3, undef, undef, undef, a0, rfl, Le.refl _ _, rfl, ((o1.up l3).up ac), (o3.up ac), hm⟩ ?_
 rintro (_ | c0) _ _ σ ⟨P, Q, S, d, e, a1, a3, a5, f, rfl, a6, rfl, a7, ae, hm⟩
 ·cases hm
 unfold Vm.ze1 at hm
 have h := a6.s
 refine ssr ?_
 have af := N.ul h
 refine mi rfl (mv y rfl (Lw.ln z9 af rfl (Lw.lt rfl (nl (cn hm (fun hm => ?_) fun hm => ?_)))))
 ·refine sk ?_
  obtain ⟨bz, b0, hm⟩ := zaS hm
  refine Cw.join 27 61 [8, 9, 12, 13, 14] (fun l w => ∃ U V W X ah ai aj i, CW.w i = w ∧ Le [2, 3, 4] f i ∧ l = [W, X, ah, ai, aj] ∧ Ow i 2 [] [W] U ∧ Ow i 3 [] [X] V ∧ bz U V = some r) ?_ ?_
  ·rintro _ _ σ ⟨U, V, W, X, ah, ai, aj, i, rfl, b1, rfl, b2, b3, hm⟩
   rw [b0] at hm
   exact rg (mi rfl (Lw.add rfl (Ni rfl ((agm) ⟨U, V, w64 (S + 1), W, X, ah, ai, aj, i, rfl, (a6.j b1).w, rfl, b2, b3, hm⟩))))
  ·refine Cw.block (sr (mv G rfl (mv H rfl (mv I rfl (mv y rfl (mi rfl ?_))))))
   obtain ⟨c1, a8, hm⟩ := ob hm
   refine Lw.r rfl (R.ix (α := Str) af a8 rfl rfl rfl) (Lw.r rfl (R.ld rfl rfl (af.at_ a8).str) (cr hm (fun _ => p176 (h0.ul (O.trans h)) (h1.ul (O.trans h)) (h2.ul (O.trans h))) ?_))
   rintro a _ a9 hm k ⟨b, rfl, b4⟩
   have b5 := b4.sub (M := [0]) rfl
   have ak := h.n k
   refine mv (.tuple [b, vB a.2.1, vI a.2.2].toArray) rfl (Lw.r rfl (R.ext (vs := [b, vB a.2.1, vI a.2.2]) (v := b) rfl rfl) (Lw.r rfl (R.ext (vs := [b, vB a.2.1, vI a.2.2]) (v := vB a.2.1) rfl rfl) (Lw.r rfl (R.ext (vs := [b, vB a.2.1, vI a.2.2]) (v := vI a.2.2) rfl rfl) (Gv b rfl (Gb rfl (Ni rfl ?_))))))
   obtain ⟨b6, b7, hm⟩ := zaS hm
   refine Cw.join 39 49 [9] (fun l w => ∃ z A B, CW.w B = w ∧ Le [3] a9 B ∧ l = [A] ∧ Ow B 3 [] [A] z ∧ b6 z = some r) ?_ ?_
   ·rintro _ _ σ ⟨z, A, B, rfl, Y, rfl, ba, hm⟩
    rw [b7] at hm
    have bb := Y.s
    have bc := (a7.up k).up Y
    refine sr (mb rfl (nl (cn hm (fun hm => ?_) fun hm => ?_)))
    ·refine Cw.draw [2, 4] [(0, 0), (1, 0), (2, 0), (3, 0), (4, 1), (6, 0), (5, 2), (7, 2), (8, 0), (9, 3), (10, 2), (11, 0)] mixed (by kernel_rfl) fun c2 Z => ?_
     have be := Z.o
     refine Dv d rfl (Dv y rfl (Di rfl ?_))
     obtain ⟨C, am, hm⟩ := ob hm
     have an := N.ul ((ak.trans bb).trans be)
     refine Mw.p rfl rfl (fun _ => R.ix (α := Str) an am rfl rfl rfl) (Mw.q rfl rfl (fun _ c => R.ld rfl rfl (zah (an.at_ am).1 rfl (an.at_ am).str c)) (Dv b rfl (Mw.t rfl rfl (T.lit0 (α := Str) 4 []) ?_)))
     rintro c3 _ ⟨c4, rfl, x, b8⟩
     have b9 := (bb.trans be).n x
     refine m0 x fun cb => ?_
     obtain ⟨cc, cd, hm⟩ := ob hm
     refine Mw.t rfl rfl (T.appP (α := Str) b8 (b5.ul b9) rfl rfl cd) ?_
     rintro aa _ ⟨c5, rfl, D, bg⟩
     refine mc cb D fun c6 => Mw.p rfl rfl (fun _ => R.bd (zs := [vS ([] : Str), .slice none 0 0]) (cs := [vS C, aa]) [(0, vS C), (1, aa)] rfl rfl rfl (zaD rfl rfl (zaD bg.oc rfl zdN))) (Mw.l rfl rfl (T.bs 5 [.agg [vS C, aa].toArray] (cs := [vS C, aa]) rfl rfl (bsA rfl)) ?_)
     rintro _ _ ⟨c7, c8, rfl, rfl, E, ce⟩
     obtain ⟨cf, cg, hm⟩ := ob hm
     refine Mw.t rfl rfl (T.app1 (α := File) (J := [4]) (K' := []) ((((bc.up Z).up x).up D).up E) ce (File.own C cc (bg.up E).s) rfl rfl cg) ?_
     rintro bh _ ⟨ch, rfl, ao, ci⟩
     refine ⟨⟨_, rfl, ((x.sub (M := [2, 4]) rfl).trans ((D.sub (M := [2, 4]) rfl).trans ((E.sub (M := [2, 4]) rfl).trans (ao.sub (M := [2, 4]) rfl))))⟩, ?_⟩
     exact Hv bh rfl (Mw.nil ((ag) ⟨cf, z, bh, A, b, vB a.2.1, vI a.2.2, ch, rfl, ((((((k.j Y).j Z).j x).j D).j E).j ao).w, rfl, ci, (((((ba.up Z).up x).up D).up E).up ao), hm⟩))
    ·exact sk ((ag) ⟨P, z, d, A, b, vB a.2.1, vI a.2.2, B, rfl, (k.j Y).w, rfl, bc, ba, hm⟩)
   ·refine sr (mi rfl (Lw.gt rfl (nl (cn hm (fun hm => ?_) fun hm => ?_))))
    ·refine rg (mv e rfl (mv y rfl (mi rfl ?_)))
     obtain ⟨F, bi, hm⟩ := ob hm
     refine Lw.r rfl (R.ix (α := Str) (N.ul ak) bi rfl rfl rfl) (Lw.r rfl (R.ld rfl rfl ((N.ul ak).at_ bi).str) (mi rfl (Lw.r rfl (R.bd (zs := [vS ([] : Str), vI 0]) (cs := [vS F, vI a.2.2]) [(0, vS F), (1, vI a.2.2)] rfl rfl rfl (zaD rfl rfl (zaD rfl rfl zdN))) (Lw.t rfl (T.bs 6 [.agg [vS F, vI a.2.2].toArray] (cs := [vS F, vI a.2.2]) rfl rfl (bsA rfl)) ?_))))
     rintro _ _ ⟨c9, da, rfl, rfl, bj, cj⟩
     obtain ⟨ck, cl, hm⟩ := ob hm
     refine Lw.t rfl (T.app1S (α := Clash) (K' := []) ((ae.up k).up bj) cj (Clash.rd (K := []) F a.2.2) rfl rfl cl) ?_
     rintro bk _ ⟨cm, rfl, co, cp⟩
     exact Nv bk rfl ((ag) ⟨ck, bk, cm, rfl, (bj.j co).w, rfl, cp, hm⟩)
    ·exact sk ((ag) ⟨Q, e, a9, rfl, Le.refl _ _, rfl, (ae.up k), hm⟩)
 ·refine Cw.exit ?_
  rw [bw] at hm
  refine sr (mv d rfl (mv e rfl (Gv d rfl (Nv e rfl ?_))))
  obtain ⟨db, cq, bl, ct⟩ := a7.dyeO 31
  have cu := (O.trans h).t bl
  obtain ⟨dc, cv, bm, cw⟩ := (ae.up bl).dyeO 32
  have cx := cu.t bm
  cases hm
  rw [← cv.trans (cq)]
  exact Cw.ret (zoI rfl rfl (Res.mk cx ⟨d, e, rfl, (ct.up bm).s, cw.s⟩))
theorem p138 {x0 d x1 f x2 h k0 k1 r} (i : Rd W K [d] x0) (k : Rd W K [f] x1) (x : Rd W K [h] x2) (hm : Vm.zjs x0 x1 x2 = some r) : Q1 138 [d, f, h] W [] fun W' v => ∃ a b, v = .tuple [a, b].toArray ∧ Ow W' k0 [] [a] r.1 ∧ Ow W' k1 [] [b] r.2 :=
 zaj.adJ (J := []) (fun c => bif Nat.beq c 0 then 0 else bif Nat.beq c 31 then k0 else bif Nat.beq c 32 then k1 else 0) (c138 (i.view _) (k.view _) (x.view _) hm) fun _ _ ⟨a, b, e, y, z⟩ => ⟨a, b, e, y.one1.backN rfl, z.one1.backN rfl⟩
theorem c81 {x0 e x1 f x2 h r} (A : Rd W0 [0] [e] x0) (P : Rd W0 [0] [f] x1) (Q : Rd W0 [0] [h] x2) (hm : Vm.zg9 x0 x1 x2 = some r) : Q0 81 [e, f, h] W0 fun Wf v => ∃ B C, v = .tuple [B, C].toArray ∧ OwS Wf [31] [] [B] r.1 ∧ OwS Wf [32] [] [C] r.2 := by
 unfold Vm.zg9 at hm
 refine zaj.of Tryz.func81 rfl rfl rfl rfl (sr (Gv (.slice none 0 0) rfl (Nv (.slice none 0 0) rfl (sr (mv e rfl (mv f rfl (mv h rfl (cr hm (fun _ => p138 (k0 := 2) (k1 := 3) A P Q) ?_))))))))
 rintro S _ D hm U ⟨a, b, rfl, E, F⟩
 have V := U.o
 refine mv (.tuple [a, b].toArray) rfl (Lw.r rfl (R.ext (vs := [a, b]) (v := a) rfl rfl) (Lw.r rfl (R.ext (vs := [a, b]) (v := b) rfl rfl) (Gv a rfl (Nv b rfl (Cw.seq ?_)))))
 obtain ⟨W, X, hm⟩ := zaS hm
 refine Cw.join 17 24 [24] (fun l w => ∃ i k, CW.w k = w ∧ Le [] D k ∧ l = [vB i] ∧ W i = some r) ?_ ?_
 ·rintro _ _ σ ⟨i, k, rfl, y, rfl, hm⟩
  rw [X] at hm
  have z := V.n y
  refine cn hm (fun hm => ?_) fun hm => ?_
  ·refine sr (mv e rfl (cr hm (fun _ => p83 (k0 := 4) (A.ul z)) ?_))
   rintro ay G az hm Y ⟨_, rfl, Z⟩
   have aa := z.n Y
   refine Lw.r rfl (R.bd (zs := [vS ([] : Str), vI 0]) (cs := [vS ([] : Str), vI 4]) [(1, vI 4)] rfl rfl rfl (zaD rfl rfl zdN)) (Lw.t rfl (T.bsO (α := Clash) (J := []) (xs := [Vm.Clash.mk ([] : Str) 4]) 5 [.agg [vS ([] : Str), vI 4].toArray] (bsL [[vS ([] : Str), vI 4]] (zAX rfl zz7) (OwL.cons (x := (Vm.Clash.mk ([] : Str) 4)) (OwS.atm (K := []) (Clash.rd (K := []) ([] : Str) 4)) OwL.nil)) rfl) ?_)
   rintro H _ ⟨a0, rfl, I, ac⟩
   have ae := aa.n I
   refine Gv G rfl (Nv H rfl ?_)
   obtain ⟨a1, af, L, ah⟩ := (Z.up I).dyeO 31
   have ai := ae.t L
   obtain ⟨a2, aj, M, ak⟩ := (ac.up L).dyeO 32
   have am := ai.t M
   cases hm
   rw [← aj.trans (af)]
   exact Cw.ret (zoI rfl rfl (Res.mk am ⟨G, H, rfl, (ah.up M).s, ak.s⟩))
  ·refine sk (sr (mv a rfl (mv b rfl (Gv a rfl (Nv b rfl ?_)))))
   obtain ⟨a3, an, N, ao⟩ := (E.up y).dyeO 31
   have ap := z.t N
   obtain ⟨a5, aq, O, ar⟩ := ((F.up y).up N).dyeO 32
   have au := ap.t O
   cases hm
   rw [← aq.trans (an)]
   exact Cw.ret (zoI rfl rfl (Res.mk au ⟨a, b, rfl, (ao.up O).s, ar.s⟩))
 ·refine rg (mv b rfl (Lw.ln S.2 F.rd rfl (Lw.eq rfl (mb rfl (bs hm (fun d hm => ?_) fun d hm => ?_)))))
  ·exact wak 3 d (mv a rfl (ca hm (fun _ => p119 (K := [2]) E.rd) fun av aw hm ax => Lw.r rfl (R.not rfl) (Pb d rfl (nl ((ag) ⟨(!av), aw, rfl, ax, rfl, hm⟩)))))
  ·exact psk 3 d rfl (Pb d rfl (nl ((ag) ⟨false, D, rfl, Le.refl _ _, rfl, hm⟩)))
theorem p81 {x0 d x1 f x2 h k0 k1 r} (i : Rd W K [d] x0) (k : Rd W K [f] x1) (x : Rd W K [h] x2) (hm : Vm.zg9 x0 x1 x2 = some r) : Q1 81 [d, f, h] W [] fun W' v => ∃ a b, v = .tuple [a, b].toArray ∧ Ow W' k0 [] [a] r.1 ∧ Ow W' k1 [] [b] r.2 :=
 zaj.adJ (J := []) (fun c => bif Nat.beq c 0 then 0 else bif Nat.beq c 31 then k0 else bif Nat.beq c 32 then k1 else 0) (c81 (i.view _) (k.view _) (x.view _) hm) fun _ _ ⟨a, b, e, y, z⟩ => ⟨a, b, e, y.one1.backN rfl, z.one1.backN rfl⟩
theorem c123 {x0 y a x1 x2 d e r} (h0 : Rd W0 [0] [y, a] x0) (h2 : Rd W0 [0] [d, vS x2.Who, e] x2) (hm : Vm.zgy x0 x1 x2 = some r) : Q0 123 [.agg [y, a].toArray, vS x1, .agg [d, vS x2.Who, e].toArray] W0 fun Wf v => ∃ af ah, v = .agg [af, ah].toArray ∧ Rd Wf [0] [af] r.Commits ∧ Rd Wf [0] [ah] r.Heads := by
 unfold Vm.zgy at hm
 obtain ⟨dr, ds, ai, aj, F⟩ := Repo.split h0
 simp only [List.cons.injEq, and_true, true_and] at ai
 obtain ⟨rfl, rfl⟩ := ai
 obtain ⟨dt, du, ak, bc, be⟩ := Commit.split h2
 simp only [List.cons.injEq, and_true, true_and] at ak
 obtain ⟨rfl, rfl⟩ := ak
 refine zaj.of Tryz.func123 rfl rfl rfl rfl (sr (bo 2 rfl fun f W1 l1 b1 => ?_))
 have a2 := l1.o
 refine bo 3 rfl fun g3 W3 l3 b3 => ?_
 have a4 := a2.n l3
 refine al 4 [.slice none 0 0, .slice none 0 0] fun g6 W6 G b6 => ?_
 have a7 := a4.n G
 refine nl (Cw.seq ?_)
 obtain ⟨B, bn, hm⟩ := ob hm
 obtain ⟨i, bp, hm⟩ := ob hm
 refine Cw.par [[], [], [1], [0, 1, 2], [], [4], [0, 1, 2, 3, 4, 5], [], [7], [0, 1, 2, 3, 4, 5, 6, 7, 8], [], [0, 1, 2, 3, 4, 5, 6, 7, 8, 9, 10]] [[], [], [1], [0, 2], [], [4], [3, 5], [], [7], [6, 8], [], [6, 9, 10]] [[], [], [], [5], [], [], [5], [], [], [], [], [7]] [[0], [1], [2], [3], [4], [5], [6], [7], [8], [6, 9], [10], [6, 10]] [[5], [], [], [0, 5], [], [6], [0, 5], [], [], [], [7], [7]] [1, 2, 4, 5, 6, 7, 8, 9, 11] [5, 7] [fun vs W => Ow W 5 [] [(vs 0)] ([] : List Commit), fun vs W => (vs 1) = ptr ((bx f).add 0), fun vs W => (vs 2) = y, fun vs W => Ow (α := List (Sh Vm.Commit)) W 5 [0] [(vs 3)] B, fun vs W => (vs 4) = .agg [d, vS x2.Who, e].toArray, fun vs W => (vs 5) = .slice (some (bx (pg (vs 5)))) 1 1 ∧ Bx W 6 (pg (vs 5)) [d, vS x2.Who, e], fun vs W => Ow (α := List (Sh Vm.Commit)) W 5 [0] [(vs 6)] i, fun vs W => (vs 7) = ptr ((bx f).add 1), fun vs W => (vs 8) = a, fun vs W => (vs 9) = .agg [(vs 6), a].toArray, fun vs W => (vs 10) = ptr (bx (pg (vs 10))) ∧ Bx W 7 (pg (vs 10)) [.slice none 0 0, .slice none 0 0], fun vs W => (vs 10) = ptr (bx (pg (vs 10))) ∧ Bx W 7 (pg (vs 10)) [(vs 6), a]] [] mixed (by kernel_rfl) rfl zq4.nil ?_
 intro d0 C
 have H := a7.n C
 have I := ((b1.up l3).up G).up C
 refine ⟨(zaN.cons ?_ (zaN.cons ?_ (zaN.cons ?_ (zaN.cons ?_ (zaN.cons ?_ (zaN.cons ?_ (zaN.cons ?_ (zaN.cons ?_ (zaN.cons ?_ (zaN.cons ?_ (zaN.cons ?_ (zaN.cons ?_ zaN.nil)))))))))))), (zdd.cons (fun vs vs' W W' _ hv l hd h => by (show Ow W' 5 [] [(vs' 0)] ([] : List Commit)); rw [hv 0 (zat rfl)]; exact h.upv l (zbJ hd (c := 5) rfl)) (zdd.cons (fun vs vs' W W' _ hv l hd h => by (show (vs' 1) = ptr ((bx f).add 0)); rw [hv 1 (zat rfl)]; exact h) (zdd.cons (fun vs vs' W W' _ hv l hd h => by (show (vs' 2) = y); rw [hv 2 (zat rfl)]; exact h) (zdd.cons (fun vs vs' W W' _ hv l hd h => by (show Ow (α := List (Sh Vm.Commit)) W' 5 [0] [(vs' 3)] B); rw [hv 3 (zat rfl)]; exact h.up l (zkz hd (K := [5, 0]) rfl)) (zdd.cons (fun vs vs' W W' _ hv l hd h => by (show (vs' 4) = .agg [d, vS x2.Who, e].toArray); rw [hv 4 (zat rfl)]; exact h) (zdd.cons (fun vs vs' W W' _ hv l hd h => by (show (vs' 5) = .slice (some (bx (pg (vs' 5)))) 1 1 ∧ Bx W' 6 (pg (vs' 5)) [d, vS x2.Who, e]); rw [hv 5 (zat rfl)]; exact ⟨h.1, h.2.up l (zbJ hd (c := 6) rfl)⟩) (zdd.cons (fun vs vs' W W' _ hv l hd h => by (show Ow (α := List (Sh Vm.Commit)) W' 5 [0] [(vs' 6)] i); rw [hv 6 (zat rfl)]; exact h.up l (zkz hd (K := [5, 0]) rfl)) (zdd.cons (fun vs vs' W W' _ hv l hd h => by (show (vs' 7) = ptr ((bx f).add 1)); rw [hv 7 (zat rfl)]; exact h) (zdd.cons (fun vs vs' W W' _ hv l hd h => by (show (vs' 8) = a); rw [hv 8 (zat rfl)]; exact h) (zdd.cons (fun vs vs' W W' _ hv l hd h => by (show (vs' 9) = .agg [(vs' 6), a].toArray); rw [hv 6 (zat rfl), hv 9 (zat rfl)]; exact h) (zdd.cons (fun vs vs' W W' _ hv l hd h => by (show (vs' 10) = ptr (bx (pg (vs' 10))) ∧ Bx W' 7 (pg (vs' 10)) [.slice none 0 0, .slice none 0 0]); rw [hv 10 (zat rfl)]; exact ⟨h.1, h.2.up l (zbJ hd (c := 7) rfl)⟩) (zdd.cons (fun vs vs' W W' _ hv l hd h => by (show (vs' 10) = ptr (bx (pg (vs' 10))) ∧ Bx W' 7 (pg (vs' 10)) [(vs' 6), a]); rw [hv 6 (zat rfl), hv 10 (zat rfl)]; exact ⟨h.1, h.2.up l (zbJ hd (c := 7) rfl)⟩) zdd.nil)))))))))))), ?_⟩
 ·intro vs W lW hN hV
  obtain ⟨d1, bq⟩ : ∃ X, X = W := ⟨W, rfl⟩
  subst bq
  refine Tr.mono (T.lit0 (α := Commit) 5 []) ?_
  rintro br _ ⟨an, rfl, bu, bv⟩
  exact ⟨an, rfl, bu, (show Ow an 5 [] [br] ([] : List Commit) from bv)⟩
 ·intro vs W lW hN hV
  obtain ⟨bw, bz⟩ : ∃ X, X = W := ⟨W, rfl⟩
  subst bz
  refine Tr.mono (Run.tr (R.fa rfl)) ?_
  rintro _ _ ⟨hu, rfl⟩
  obtain rfl := hu.symm
  exact ⟨bw, rfl, Le.refl _ _, (show (ptr ((bx f).add 0) : Value) = ptr ((bx f).add 0) from rfl)⟩
 ·intro vs W lW hN hV
  obtain ⟨b0, b2⟩ : ∃ X, X = W := ⟨W, rfl⟩
  subst b2
  have J : vs 1 = ptr ((bx f).add 0) := (hN 1 (zat rfl))
  obtain ⟨vs, rfl⟩ := zao J
  refine Tr.mono (Run.tr (R.ld (v := y) rfl rfl ((I.up lW rfl).cell rfl))) ?_
  rintro _ _ ⟨hu, rfl⟩
  obtain rfl := hu.symm
  exact ⟨b0, rfl, Le.refl _ _, (show (y : Value) = y from rfl)⟩
 ·intro vs W lW hN hV
  obtain ⟨b4, b5⟩ : ∃ X, X = W := ⟨W, rfl⟩
  subst b5
  have b7 := H.t lW rfl
  obtain ⟨b8, b9⟩ : ∃ v, vs 0 = v := ⟨_, rfl⟩
  obtain ⟨vs, rfl⟩ := zao b9
  have cb : Ow b4 5 [] [b8] ([] : List Commit) := (hN 0 (zat rfl))
  have L : vs 2 = y := (hN 2 (zat rfl))
  obtain ⟨vs, rfl⟩ := zao L
  obtain ⟨d2, cc, ao, cd⟩ := cb.toSh
  rw [← cc]
  have ce := b7.t ao
  refine Tr.mono (T.appS (α := Sh Vm.Commit) (K' := [0]) cd (aj.ul ce).shL rfl rfl bn) ?_
  rintro cf _ ⟨ap, rfl, cg, ch⟩
  exact ⟨ap, rfl, ((ao.sub (M := [5]) rfl).trans (cg.sub (M := [5]) rfl)), (show Ow (α := List (Sh Vm.Commit)) ap 5 [0] [cf] B from ch)⟩
 ·intro vs W lW hN hV
  obtain ⟨ci, cj⟩ : ∃ X, X = W := ⟨W, rfl⟩
  subst cj
  refine Tr.mono (Run.tr (R.lda (cs := [d, vS x2.Who, e]) (((b3.up G).up C).up lW rfl).cells rfl rfl)) ?_
  rintro _ _ ⟨hu, rfl⟩
  obtain rfl := hu.symm
  exact ⟨ci, rfl, Le.refl _ _, (show (.agg [d, vS x2.Who, e].toArray : Value) = .agg [d, vS x2.Who, e].toArray from rfl)⟩
 ·intro vs W lW hN hV
  obtain ⟨d3, ck⟩ : ∃ X, X = W := ⟨W, rfl⟩
  subst ck
  have N : vs 4 = .agg [d, vS x2.Who, e].toArray := (hN 4 (zat rfl))
  obtain ⟨vs, rfl⟩ := zao N
  refine Tr.mono (T.bs 6 [.agg [d, vS x2.Who, e].toArray] (cs := [d, vS x2.Who, e]) rfl rfl (bsA rfl)) ?_
  rintro _ _ ⟨O, aq, rfl, rfl, cl, cm⟩
  exact ⟨aq, rfl, cl, (show (.slice (some (bx O)) 1 1 : Value) = .slice (some (bx O)) 1 1 ∧ Bx aq 6 O [d, vS x2.Who, e] from ⟨rfl, cm⟩)⟩
 ·intro vs W lW hN hV
  obtain ⟨ar, co⟩ : ∃ X, X = W := ⟨W, rfl⟩
  subst co
  have au := H.t lW rfl
  obtain ⟨cp, cq⟩ : ∃ v, vs 3 = v := ⟨_, rfl⟩
  obtain ⟨vs, rfl⟩ := zao cq
  have ct : Ow (α := List (Sh Vm.Commit)) ar 5 [0] [cp] B := (hN 3 (zat rfl))
  obtain ⟨z, P⟩ : ∃ z, vs 5 = .slice (some (bx z)) 1 1 := ⟨_, ((hN 5 (zat rfl))).1⟩
  obtain ⟨vs, rfl⟩ := zao P
  have cu : Bx ar 6 z [d, vS x2.Who, e] := (hN 5 (zat rfl)).2
  refine Tr.mono (T.app1S (α := Sh Vm.Commit) (K' := [0]) ct cu (Commit.rd (K := [0]) x2.Parents x2.Who x2.Tree (bc.ul au) (be.ul au)).sh1 rfl rfl bp) ?_
  rintro cv _ ⟨av, rfl, cw, cx⟩
  exact ⟨av, rfl, cw, (show Ow (α := List (Sh Vm.Commit)) av 5 [0] [cv] i from cx)⟩
 ·intro vs W lW hN hV
  obtain ⟨cy, cz⟩ : ∃ X, X = W := ⟨W, rfl⟩
  subst cz
  refine Tr.mono (Run.tr (R.fa rfl)) ?_
  rintro _ _ ⟨hu, rfl⟩
  obtain rfl := hu.symm
  exact ⟨cy, rfl, Le.refl _ _, (show (ptr ((bx f).add 1) : Value) = ptr ((bx f).add 1) from rfl)⟩
 ·intro vs W lW hN hV
  obtain ⟨c0, c1⟩ : ∃ X, X = W := ⟨W, rfl⟩
  subst c1
  have Q : vs 7 = ptr ((bx f).add 1) := (hN 7 (zat rfl))
  obtain ⟨vs, rfl⟩ := zao Q
  refine Tr.mono (Run.tr (R.ld (v := a) rfl rfl ((I.up lW rfl).cell rfl))) ?_
  rintro _ _ ⟨hu, rfl⟩
  obtain rfl := hu.symm
  exact ⟨c0, rfl, Le.refl _ _, (show (a : Value) = a from rfl)⟩
 ·intro vs W lW hN hV
  obtain ⟨aw, c2⟩ : ∃ X, X = W := ⟨W, rfl⟩
  subst c2
  obtain ⟨b, A⟩ : ∃ v, vs 6 = v := ⟨_, rfl⟩
  obtain ⟨vs, rfl⟩ := zao A
  have c3 : Ow (α := List (Sh Vm.Commit)) aw 5 [0] [b] i := (hN 6 (zat rfl))
  have S : vs 8 = a := (hN 8 (zat rfl))
  obtain ⟨vs, rfl⟩ := zao S
  refine Tr.mono (Run.tr (R.bd (zs := [.slice none 0 0, .slice none 0 0]) (cs := [b, a]) [(0, b), (1, a)] rfl rfl rfl (zaD c3.oc rfl (zaD F.oc rfl zdN)))) ?_
  rintro _ _ ⟨hu, rfl⟩
  obtain rfl := hu.symm
  exact ⟨aw, rfl, Le.refl _ _, (show (.agg [b, a].toArray : Value) = .agg [b, a].toArray from rfl)⟩
 ·intro vs W lW hN hV
  obtain ⟨d4, c4⟩ : ∃ X, X = W := ⟨W, rfl⟩
  subst c4
  refine Tr.mono (T.alloc 7 (cs := [.slice none 0 0, .slice none 0 0]) rfl) ?_
  rintro _ _ ⟨U, ax, rfl, rfl, c5, c6⟩
  exact ⟨ax, rfl, c5, (show (ptr (bx U) : Value) = ptr (bx U) ∧ Bx ax 7 U [.slice none 0 0, .slice none 0 0] from ⟨rfl, c6⟩)⟩
 ·intro vs W lW hN hV
  obtain ⟨ay, c7⟩ : ∃ X, X = W := ⟨W, rfl⟩
  subst c7
  obtain ⟨b, A⟩ : ∃ v, vs 6 = v := ⟨_, rfl⟩
  obtain ⟨vs, rfl⟩ := zao A
  have c8 : Ow (α := List (Sh Vm.Commit)) ay 5 [0] [b] i := (hN 6 (zat rfl))
  have V : vs 9 = .agg [b, a].toArray := (hN 9 (zat rfl))
  obtain ⟨vs, rfl⟩ := zao V
  obtain ⟨k, Y⟩ : ∃ k, vs 10 = ptr (bx k) := ⟨_, ((hN 10 (zat rfl))).1⟩
  obtain ⟨vs, rfl⟩ := zao Y
  have c9 : Bx ay 7 k [.slice none 0 0, .slice none 0 0] := (hN 10 (zat rfl)).2
  refine Tr.mono (T.sta (vs := [b, a]) c9 rfl rfl (zaa c8.oc (zaa F.oc zaR)) rfl rfl) ?_
  rintro _ _ ⟨az, rfl, da, db⟩
  exact ⟨az, rfl, da, (show (ptr (bx k)) = ptr (bx k) ∧ Bx az 7 k [b, a] from ⟨rfl, db⟩)⟩
 ·intro vs W lW hN
  obtain ⟨D, dc⟩ : ∃ X, X = W := ⟨W, rfl⟩
  subst dc
  have Z := H.t lW rfl
  obtain ⟨d5, hl174⟩ : ∃ x, x = lW := ⟨lW, rfl⟩
  have J : vs 1 = ptr ((bx f).add 0) := (hN 1 (zat rfl))
  obtain ⟨vs, rfl⟩ := zao J
  have L : vs 2 = y := (hN 2 (zat rfl))
  obtain ⟨vs, rfl⟩ := zao L
  have N : vs 4 = .agg [d, vS x2.Who, e].toArray := (hN 4 (zat rfl))
  obtain ⟨vs, rfl⟩ := zao N
  obtain ⟨z, P⟩ : ∃ z, vs 5 = .slice (some (bx z)) 1 1 := ⟨_, ((hN 5 (zat rfl))).1⟩
  obtain ⟨vs, rfl⟩ := zao P
  have d6 : Bx D 6 z [d, vS x2.Who, e] := (hN 5 (zat rfl)).2
  obtain ⟨b, A⟩ : ∃ v, vs 6 = v := ⟨_, rfl⟩
  obtain ⟨vs, rfl⟩ := zao A
  have a0 : Ow (α := List (Sh Vm.Commit)) D 5 [0] [b] i := (hN 6 (zat rfl))
  have Q : vs 7 = ptr ((bx f).add 1) := (hN 7 (zat rfl))
  obtain ⟨vs, rfl⟩ := zao Q
  have S : vs 8 = a := (hN 8 (zat rfl))
  obtain ⟨vs, rfl⟩ := zao S
  have V : vs 9 = .agg [b, a].toArray := (hN 9 (zat rfl))
  obtain ⟨vs, rfl⟩ := zao V
  obtain ⟨k, Y⟩ : ∃ k, vs 10 = ptr (bx k) := ⟨_, (hN 11 (zat rfl)).1⟩
  obtain ⟨vs, rfl⟩ := zao Y
  have dd : Bx D 7 k [b, a] := (hN 11 (zat rfl)).2
  refine sr (Lw.r rfl (R.lda (cs := [b, a]) dd.cells rfl rfl) (ms rfl (fl (I.up lW rfl) rfl (Lw.ln x0.Commits (aj.ul Z) rfl ?_))))
  have de : Rd (α := List Vm.Commit) D [5, 0] [b] i := Ow.rdSh a0
  refine cr hm (fun _ => p60 (K := [0, 5]) (x0 := (Vm.Repo.mk i x0.Heads)) (Repo.rd (K := [0, 5]) i x0.Heads (de.sub (M := [0, 5]) rfl) ((F.ul Z).sub (M := [0, 5]) rfl))) ?_
  rintro a1 _ d7 hm aa ⟨a3, a5, rfl, df, dg⟩
  have a6 := df.sub (M := [0, 5]) rfl
  have a8 := dg.sub (M := [0, 5]) rfl
  have dh := Z.n aa
  refine sta (((b6.up C).up lW rfl).up aa) (zaa a6.oc (zaa a8.oc zaR)) fun d8 E di => ?_
  have dj := dh.t E
  refine nl ?_
  have dk := a6.up (E.sub (M := [4]) rfl) rfl
  have dl := a8.up (E.sub (M := [4]) rfl) rfl
  obtain ⟨ac, dm, a9, ae⟩ := zp4 _ 5
  have dn : Rd ac [0] [a3] a1.Commits := by rw [ae]; exact (dk.dye 5).sub (M := [0]) rfl
  have dp : Rd ac [0] [a5] a1.Heads := by rw [ae]; exact (dl.dye 5).sub (M := [0]) rfl
  have d9 : Rd (α := List Vm.Commit) ac [0] [b] i := by rw [ae]; exact (((a0.up aa).up E).rd.dye 5).sub (M := [0]) rfl
  have dq := dj.t a9
  cases hm
  rw [← dm]
  exact Cw.ret (zlH rfl (di.up a9) (Res.mk dq ⟨a3, a5, rfl, dn, dp⟩))
theorem p123 {x0 d f x1 x2 h i r} (k : Rd W K [d, f] x0) (x : Rd W K [h, vS x2.Who, i] x2) (hm : Vm.zgy x0 x1 x2 = some r) : Q1 123 [.agg [d, f].toArray, vS x1, .agg [h, vS x2.Who, i].toArray] W [] fun W' v => ∃ a b, v = .agg [a, b].toArray ∧ Rd W' (0 :: K) [a] r.Commits ∧ Rd W' (0 :: K) [b] r.Heads :=
 (c123 (k.view _) (x.view _) hm).ad (fk 0) fun _ _ ⟨a, b, e, y, z⟩ => ⟨a, b, e, y.back rfl, z.back rfl⟩
theorem c61 {x0 B C x1 x2 x3 H x4 I r} (h0 : Rd W0 [0] [B, C] x0) (h3 : Rd W0 [0] [H] x3) (h4 : Rd W0 [0] [I] x4) (hm : Vm.zeI x0 x1 x2 x3 x4 = some r) : Q0 61 [.agg [B, C].toArray, vS x1, vS x2, H, I] W0 fun Wf v => ∃ ai aj, v = .tuple [.agg [ai, aj].toArray, vI r.2].toArray ∧ Rd Wf [0] [ai] r.1.Commits ∧ Rd Wf [0] [aj] r.1.Heads := by
 unfold Vm.zeI at hm
 obtain ⟨b5, b6, ak, e, h⟩ := Repo.split h0
 simp only [List.cons.injEq, and_true, true_and] at ak
 obtain ⟨rfl, rfl⟩ := ak
 refine zaj.of Tryz.func61 rfl rfl rfl rfl (sr (bo 2 rfl fun g1 W1 l1 b1 => ?_))
 have a2 := l1.o
 refine al 3 [.slice none 0 0, .slice none 0 0] fun g3 W3 J b3 => ?_
 have L := a2.n J
 refine Ni rfl (sr (la (b1.up J) (ms rfl (ca hm (fun _ => p56 (Repo.rd (K := [0]) x0.Commits x0.Heads (e.ul L) (h.ul L))) fun x cc hm l10 => ?_))))
 have y := L.n l10
 have an := (b1.up J).up l10
 refine Ni rfl (sr (mv H rfl (fl an rfl (mi rfl ?_))))
 obtain ⟨cd, ao, hm⟩ := ob hm
 refine Lw.r rfl (R.ix (α := Commit) (e.ul y) ao rfl rfl rfl) (Lw.fa rfl ?_)
 obtain ⟨ce, c18, r19⟩ := (Commit.at2 ((e.ul y).at_ ao)).cell rfl
 refine Lw.r rfl (R.ld rfl rfl c18) (mv I rfl (cr hm (fun _ => p81 (k0 := 4) (k1 := 5) (h3.ul y) r19 (h4.ul y)) ?_))
 rintro D _ a5 hm N ⟨a, i, rfl, a6, a7⟩
 have ap := y.n N
 have O := an.up N
 have aq := (b3.up l10).up N
 refine mv (.tuple [a, i].toArray) rfl (Lw.r rfl (R.ext (vs := [a, i]) (v := a) rfl rfl) (Lw.r rfl (R.ext (vs := [a, i]) (v := i) rfl rfl) (Gv a rfl (Nv i rfl (ssr (mv i rfl (Lw.ln D.2 a7.rd rfl (Lw.gt rfl (nl (cn hm (fun hm => ?_) fun hm => ?_))))))))))
 ·refine sr (la O (sta aq (zaa e.oc (zaa h.oc zaR)) fun cf a8 a9 => ?_))
  have P := ap.t a8
  refine Ni rfl ?_
  cases hm
  exact Cw.ret (zjH rfl a9 rfl (Res.mk P ⟨B, C, rfl, (e.ul P), (h.ul P)⟩))
 ·refine sk (sr (la O (ms rfl (mi rfl (Lw.t rfl (T.bsS (α := Int) (xs := [x]) 6 [] (W := a5) [vI x] (Each.cons ((rdI _)) Each.nil) rfl) ?_)))))
  rintro Q _ ⟨cg, rfl, E, S⟩
  have U := ap.n E
  have V := a6.up E
  refine ms rfl (mv a rfl (Lw.r rfl (R.bd (zs := [.slice none 0 0, vS ([] : Str), .slice none 0 0]) (cs := [Q, vS x2, a]) [(0, Q), (1, vS x2), (2, a)] rfl rfl rfl (zaD S.oc rfl (zaD rfl rfl (zaD V.oc rfl zdN)))) (cr hm (fun _ => p123 (K := [0, 4, 6]) (x2 := (Vm.Commit.mk ([x] : List Int) x2 D.1)) ((Repo.rd (K := [0]) x0.Commits x0.Heads (e.ul U) (h.ul U)).sub (M := [0, 4, 6]) rfl) ((Commit.rd (K := [4, 6]) ([x] : List Int) x2 D.1 (S.rd.sub (M := [4, 6]) rfl) (V.rd.sub (M := [4, 6]) rfl)).sub (M := [0, 4, 6]) rfl)) ?_)))
  rintro k _ ch hm z ⟨X, Y, rfl, ba, bb⟩
  have F := ba.sub (M := [0, 4, 6]) rfl
  have G := bb.sub (M := [0, 4, 6]) rfl
  have bc := U.n z
  refine al 7 [.slice none 0 0, .slice none 0 0] fun ci cj b be => ?_
  have bg := bc.n b
  refine sta be (zaa F.oc (zaa G.oc zaR)) fun ck d ar => ?_
  have bh := bg.t d
  refine nl (ssr (la ar ?_))
  have bi := F.up ((b.sub (M := [7]) rfl).trans (d.sub (M := [7]) rfl)) rfl
  have bj := G.up ((b.sub (M := [7]) rfl).trans (d.sub (M := [7]) rfl)) rfl
  refine ca hm (fun _ => p55 (K := [0, 4, 6]) (Repo.rd (K := [0, 4, 6]) k.Commits k.Heads bi bj)) fun cl cm hm f => ?_
  have au := bh.n f
  have av := ((((aq.up E).up z).up b).up d).up f
  refine Lw.r rfl (R.not rfl) (nl (cn hm (fun hm => ?_) fun hm => ?_))
  ·refine sr (la (((((O.up E).up z).up b).up d).up f) (sta av (zaa e.oc (zaa h.oc zaR)) fun co bk bl => ?_))
   have Z := au.t bk
   refine Ni rfl ?_
   cases hm
   exact Cw.ret (zjH rfl bl rfl (Res.mk Z ⟨B, C, rfl, (e.ul Z), (h.ul Z)⟩))
  ·refine sk (sr (la (ar.up f) (sta av (zaa F.oc (zaa G.oc zaR)) fun cp A bm => ?_)))
   have bn := au.t A
   refine Ni rfl ?_
   have bp := F.up ((b.sub (M := [3, 7]) rfl).trans ((d.sub (M := [3, 7]) rfl).trans ((f.sub (M := [3, 7]) rfl).trans (A.sub (M := [3, 7]) rfl)))) rfl
   have bq := G.up ((b.sub (M := [3, 7]) rfl).trans ((d.sub (M := [3, 7]) rfl).trans ((f.sub (M := [3, 7]) rfl).trans (A.sub (M := [3, 7]) rfl)))) rfl
   obtain ⟨aa, br, ac, ae⟩ := zp4 _ 4
   have bu : Rd aa [0, 6] [X] k.Commits := by rw [ae]; exact (bp.dye 4).sub (M := [0, 6]) rfl
   have bv : Rd aa [0, 6] [Y] k.Heads := by rw [ae]; exact (bq.dye 4).sub (M := [0, 6]) rfl
   have cq : Rd (α := List Vm.File) aa [0] [a] D.1 := by rw [ae]; exact ((((((V.up z).up b).up d).up f).up A).rd.dye 4).sub (M := [0]) rfl
   have bw := bn.t ac
   obtain ⟨af, bz, aw, ah⟩ := zp4 _ 6
   have b0 : Rd af [0] [X] k.Commits := by rw [ah]; exact (bu.dye 6).sub (M := [0]) rfl
   have b2 : Rd af [0] [Y] k.Heads := by rw [ah]; exact (bv.dye 6).sub (M := [0]) rfl
   have ct : Rd (α := List Int) af [0] [Q] ([x] : List Int) := by rw [ah]; exact (((((((S.up z).up b).up d).up f).up A).up ac).rd.dye 6).sub (M := [0]) rfl
   have b4 := bw.t aw
   cases hm
   rw [← bz.trans (br)]
   exact Cw.ret (zjH rfl ((bm.up ac).up aw) rfl (Res.mk b4 ⟨X, Y, rfl, b0, b2⟩))
theorem p61 {x0 d f x1 x2 x3 h x4 i r} (k : Rd W K [d, f] x0) (x : Rd W K [h] x3) (y : Rd W K [i] x4) (hm : Vm.zeI x0 x1 x2 x3 x4 = some r) : Q1 61 [.agg [d, f].toArray, vS x1, vS x2, h, i] W [] fun W' v => ∃ a b, v = .tuple [.agg [a, b].toArray, vI r.2].toArray ∧ Rd W' (0 :: K) [a] r.1.Commits ∧ Rd W' (0 :: K) [b] r.1.Heads :=
 (c61 (k.view _) (x.view _) (y.view _) hm).ad (fk 0) fun _ _ ⟨a, b, e, z, A⟩ => ⟨a, b, e, z.back rfl, A.back rfl⟩
end Go.Sx
