/- Walks: each function answers as its model, printed by a program of ours. Conditions: the arguments read as they are given. -/
import Derived.Test.YtokbhelngoeblaaGreatDoorGTs
import Derived.Test.YtokbhelngoeblaaGreatDoorGM2
import Derived.Test.YtokbhelngoeblaaGreatDoorGW1
import Derived.Test.YtokbhelngoeblaaGreatDoorGW12
import Derived.Test.YtokbhelngoeblaaGreatDoorGW2
import Derived.Test.YtokbhelngoeblaaGreatDoorGW3
import Derived.Test.YtokbhelngoeblaaGreatDoorGE
namespace Go.Sx
open Go Go.Proofs Go.Vm Rp
set_option linter.unusedVariables false
set_option linter.unusedSimpArgs false
variable {W W0 : CW} {K : List Nat}
theorem c100 {x0 af x1 ah r} (h0 : Rd W0 [0] [af] x0) (H : Rd W0 [0] [ah] x1) (d5 : Gl 0 W0 [0]) (hm : Vm.ze9 x0 x1 = some r) : Q0 100 [af, ah] W0 fun Wf v => ∃ u0, v = u0 ∧ OwS Wf LL [] [u0] r := by
 unfold Vm.ze9 at hm
 refine zaj.of Tryz.func100 rfl rfl rfl rfl (sr (Nv (.slice none 0 0) rfl (Cw.seq ?_)))
 obtain ⟨K3, fq, hm⟩ := zaS hm
 refine Cw.join 20 27 [27] (fun l w => ∃ y1 W2, CW.w W2 = w ∧ Le [] W0 W2 ∧ l = [vB y1] ∧ K3 y1 = some r) ?_ ?_
 ·rintro _ _ σ ⟨y1, W2, rfl, l2, rfl, hm⟩
  rw [fq] at hm
  have a4 := l2.o
  refine cn hm (fun hm => ?_) fun hm => ?_
  ·refine sr (Nv (.slice none 0 0) rfl ?_)
   cases hm
   exact Cw.ret (zhB rfl (Res.mk a4 ⟨.slice none 0 0, rfl, (zm5 []).sub rfl rfl⟩))
  ·refine sk (sr (Nv (.slice none 0 0) rfl (sr (Nv (.slice none 0 0) rfl (ssr (mv af rfl (Lw.ln x0 (h0.ul a4) rfl (mi rfl (nl (Cw.block ?_))))))))))
   obtain ⟨fs, ft, hm⟩ := zaS hm
   refine Cw.loop 30 111 [5, 6, 8, 9, 10, 11, 13, 14, 15, 30] (fun m l w => ∃ y7 I b2 L N d7 d8 d9 b3 ax ay az y, CW.w y = w ∧ Le [2, 3, 4, 6, 8, 9, 10, 12, 13] W2 y ∧ l = [L, N, d7, d8, d9, b3, ax, ay, az, vI b2] ∧ Ow y 2 [] [L] y7 ∧ Ow y 3 [] [N] I ∧ Vm.zcv x0 x1 fs m y7 I b2 = some r) _ ⟨([] : List Change), ([] : List Str), 0, .slice none 0 0, .slice none 0 0, undef, undef, undef, undef, undef, undef, undef, W2, rfl, Le.refl _ _, rfl, owN 2 [], owN 3 [], hm⟩ ?_
   rintro (_ | i3) _ _ σ ⟨y7, I, b2, L, N, d7, d8, d9, b3, ax, ay, az, y, rfl, ea, rfl, o9, ec, hm⟩
   ·cases hm
   unfold Vm.zcv at hm
   have z := a4.t ea
   refine sr (Lw.lt rfl (nl (Cw.seq (cn hm (fun hm => ?_) fun hm => ?_))))
   ·refine sk ?_
    obtain ⟨fu, fv, hm⟩ := zaS hm
    refine Cw.join 32 110 [5, 6, 8, 9, 10, 11, 13, 14, 15] (fun l w => ∃ b4 b5 b6 b7 cy cz c0 c1 c2 c3 c4 aj, CW.w aj = w ∧ Le [2, 3, 4, 6, 8, 9, 10, 12, 13] y aj ∧ l = [b6, b7, cy, cz, c0, c1, c2, c3, c4] ∧ Ow aj 2 [] [b6] b4 ∧ Ow aj 3 [] [b7] b5 ∧ fu b4 b5 = some r) ?_ ?_
    ·rintro _ _ σ ⟨b4, b5, b6, b7, cy, cz, c0, c1, c2, c3, c4, aj, rfl, fw, rfl, fx, fy, hm⟩
     rw [fv] at hm
     exact rg (Lw.add rfl (mi rfl (nl ((agm) ⟨b4, b5, w64 (b2 + 1), b6, b7, cy, cz, c0, c1, c2, c3, c4, aj, rfl, (ea.j fw).w, rfl, fx, fy, hm⟩))))
    ·refine Cw.block (sr ?_)
     obtain ⟨a, ed, hm⟩ := ob hm
     refine Lw.r rfl (R.ix (α := File) (h0.ul z) ed rfl rfl rfl) ?_
     obtain ⟨x45, c46, _, r47⟩ := ((h0.ul z).at_ ed).cells
     obtain ⟨O, rfl, r49⟩ := File.split r47
     refine Lw.r rfl (R.lda c46 rfl rfl) (al 4 [vS ([] : Str), .slice none 0 0] fun b i4 ak fz => ?_)
     have A := ak.o
     refine sta fz (zaa rfl (zaa r49.oc zaR)) fun i5 am c5 => ?_
     have B := am.s
     refine nl (sr (mv ah rfl (fl c5 rfl (cr hm (fun _ => p151 (k0 := 5) (H.ul ((z.trans A).trans B))) ?_))))
     rintro P _ ee hm C ⟨i, rfl, ef⟩
     have Q := C.o
     refine mv (.tuple [i, vB P.2].toArray) rfl (Lw.r rfl (R.ext (vs := [i, vB P.2]) (v := i) rfl rfl) (Lw.r rfl (R.ext (vs := [i, vB P.2]) (v := vB P.2) rfl rfl) (Gv i rfl (Nb rfl (Cw.block ?_)))))
     obtain ⟨f0, f1, hm⟩ := zaS hm
     refine Cw.join 91 98 [91] (fun l w => ∃ c6 b8, CW.w b8 = w ∧ Le [] ee b8 ∧ l = [vB c6] ∧ f0 c6 = some r) ?_ ?_
     ·rintro _ _ σ ⟨c6, b8, rfl, D, rfl, hm⟩
      rw [f1] at hm
      have an := D.o
      have c7 := (((o9.up ak).up am).up C).up D
      have c8 := (((ec.up ak).up am).up C).up D
      have c9 := (c5.up C).up D
      refine cn hm (fun hm => ?_) fun hm => ?_
      ·exact sk ((ag) ⟨y7, I, L, N, ptr (bx b), i, vB P.2, b3, ax, ay, az, b8, rfl, (((ak.j am).j C).j D).w, rfl, c7, c8, hm⟩)
      ·refine sr (mb rfl (Nb rfl (cn hm (fun hm => ?_) fun hm => ?_)))
       ·refine Cw.draw [2, 6] [(0, 0), (1, 0), (2, 1), (3, 0), (4, 1), (5, 0), (6, 2), (7, 0), (8, 2), (9, 2), (10, 0)] mixed (by kernel_rfl) fun i6 S => ?_
        have f2 := (((A.trans B).trans Q).trans an).n S
        refine Dv L rfl (Dfl (c9.up S) rfl rfl rfl (Dfl (c9.up S) rfl rfl rfl (Dv i rfl (Dc hm (Le.refl _ _) (fun _ => p153 (K := [0, 5]) (k0 := 6) ((r49.ul f2).sub (M := [0, 5]) rfl) (((ef.up D).up S).rd.sub (M := [0, 5]) rfl)) rfl ?_))))
        rintro f3 b9 i7 hm da ⟨_, rfl, eg⟩ f4
        refine Mw.p rfl rfl (fun _ => R.bd (zs := [vI 0, vS ([] : Str), vS ([] : Str), .slice none 0 0, .slice none 0 0]) (cs := [vI 3, vS a.Path, vS ([] : Str), .slice none 0 0, b9]) [(0, vI 3), (1, vS a.Path), (4, b9)] rfl rfl rfl (zaD rfl rfl (zaD rfl rfl (zaD eg.oc rfl zdN)))) (Mw.t rfl rfl (T.bs 7 [.agg [vI 3, vS a.Path, vS ([] : Str), .slice none 0 0, b9].toArray] (cs := [vI 3, vS a.Path, vS ([] : Str), .slice none 0 0, b9]) rfl rfl (bsA rfl)) ?_)
        rintro _ _ ⟨i8, i9, rfl, rfl, a0, f5⟩
        refine mc f4 a0 fun f6 => ?_
        obtain ⟨f7, f8, hm⟩ := ob hm
        refine Mw.t rfl rfl (T.app1 (α := Change) (J := [6]) (K' := []) (((c7.up S).up da).up a0) f5 (Change.own 3 a.Path ([] : Str) ([] : List Str) f3 (zm5 []) (eg.up a0).s) rfl rfl f8) ?_
        rintro eh _ ⟨f9, rfl, db, ga⟩
        exact mc f6 db fun ja => Hv eh rfl (Mw.nil ((ag) ⟨f7, I, eh, N, ptr (bx b), i, vB P.2, b3, ax, ay, az, f9, rfl, (((((((ak.j am).j C).j D).j S).j da).j a0).j db).w, rfl, ga, ((((c8.up S).up da).up a0).up db), hm⟩))
       ·refine Cw.seq ?_
        obtain ⟨U, gb, hm⟩ := ob hm
        refine Cw.par [[], [0], [], [2], [2, 3], [0, 1, 2, 3, 4], [], [0, 1, 2, 3, 4, 5, 6]] [[], [0], [], [2], [3], [1, 4], [], [4, 5, 6]] [[], [], [], [], [], [], [], [9]] [[0], [1], [2], [3], [4], [4, 5], [6], [4, 6]] [[], [], [], [], [8], [], [9], [9]] [0, 1, 2, 3, 4, 5, 7] [9] [fun vs W => (vs 0) = ptr ((bx b).add 0), fun vs W => (vs 1) = vS a.Path, fun vs W => (vs 2) = ptr ((bx b).add 1), fun vs W => (vs 3) = O, fun vs W => Ow W 8 [] [(vs 4)] U, fun vs W => (vs 5) = .agg [vI 2, vS a.Path, vS ([] : Str), (vs 4), .slice none 0 0].toArray, fun vs W => (vs 6) = ptr (bx (pg (vs 6))) ∧ Bx W 9 (pg (vs 6)) [vI 0, vS ([] : Str), vS ([] : Str), .slice none 0 0, .slice none 0 0], fun vs W => (vs 6) = ptr (bx (pg (vs 6))) ∧ Bx W 9 (pg (vs 6)) [vI 2, vS a.Path, vS ([] : Str), (vs 4), .slice none 0 0]] [] mixed (by kernel_rfl) rfl zq4.nil ?_
        intro jb a1
        have a2 := a1.o
        have dc := c9.up a1
        refine ⟨(zaN.cons ?_ (zaN.cons ?_ (zaN.cons ?_ (zaN.cons ?_ (zaN.cons ?_ (zaN.cons ?_ (zaN.cons ?_ (zaN.cons ?_ zaN.nil)))))))), (zdd.cons (fun vs vs' W W' _ hv l hd h => by (show (vs' 0) = ptr ((bx b).add 0)); rw [hv 0 (zat rfl)]; exact h) (zdd.cons (fun vs vs' W W' _ hv l hd h => by (show (vs' 1) = vS a.Path); rw [hv 1 (zat rfl)]; exact h) (zdd.cons (fun vs vs' W W' _ hv l hd h => by (show (vs' 2) = ptr ((bx b).add 1)); rw [hv 2 (zat rfl)]; exact h) (zdd.cons (fun vs vs' W W' _ hv l hd h => by (show (vs' 3) = O); rw [hv 3 (zat rfl)]; exact h) (zdd.cons (fun vs vs' W W' _ hv l hd h => by (show Ow W' 8 [] [(vs' 4)] U); rw [hv 4 (zat rfl)]; exact h.upv l (zbJ hd (c := 8) rfl)) (zdd.cons (fun vs vs' W W' _ hv l hd h => by (show (vs' 5) = .agg [vI 2, vS a.Path, vS ([] : Str), (vs' 4), .slice none 0 0].toArray); rw [hv 4 (zat rfl), hv 5 (zat rfl)]; exact h) (zdd.cons (fun vs vs' W W' _ hv l hd h => by (show (vs' 6) = ptr (bx (pg (vs' 6))) ∧ Bx W' 9 (pg (vs' 6)) [vI 0, vS ([] : Str), vS ([] : Str), .slice none 0 0, .slice none 0 0]); rw [hv 6 (zat rfl)]; exact ⟨h.1, h.2.up l (zbJ hd (c := 9) rfl)⟩) (zdd.cons (fun vs vs' W W' _ hv l hd h => by (show (vs' 6) = ptr (bx (pg (vs' 6))) ∧ Bx W' 9 (pg (vs' 6)) [vI 2, vS a.Path, vS ([] : Str), (vs' 4), .slice none 0 0]); rw [hv 4 (zat rfl), hv 6 (zat rfl)]; exact ⟨h.1, h.2.up l (zbJ hd (c := 9) rfl)⟩) zdd.nil)))))))), ?_⟩
        ·intro vs W lW hN hV
         obtain ⟨gc, gd⟩ : ∃ X, X = W := ⟨W, rfl⟩
         subst gd
         refine Tr.mono (Run.tr (R.fa rfl)) ?_
         rintro _ _ ⟨hu, rfl⟩
         obtain rfl := hu.symm
         exact ⟨gc, rfl, Le.refl _ _, (show (ptr ((bx b).add 0) : Value) = ptr ((bx b).add 0) from rfl)⟩
        ·intro vs W lW hN hV
         obtain ⟨gf, gg⟩ : ∃ X, X = W := ⟨W, rfl⟩
         subst gg
         have dd : vs 0 = ptr ((bx b).add 0) := (hN 0 (zat rfl))
         obtain ⟨vs, rfl⟩ := zao dd
         refine Tr.mono (Run.tr (R.ld (v := vS a.Path) rfl rfl ((dc.up lW rfl).cell rfl))) ?_
         rintro _ _ ⟨hu, rfl⟩
         obtain rfl := hu.symm
         exact ⟨gf, rfl, Le.refl _ _, (show (vS a.Path : Value) = vS a.Path from rfl)⟩
        ·intro vs W lW hN hV
         obtain ⟨gh, gj⟩ : ∃ X, X = W := ⟨W, rfl⟩
         subst gj
         refine Tr.mono (Run.tr (R.fa rfl)) ?_
         rintro _ _ ⟨hu, rfl⟩
         obtain rfl := hu.symm
         exact ⟨gh, rfl, Le.refl _ _, (show (ptr ((bx b).add 1) : Value) = ptr ((bx b).add 1) from rfl)⟩
        ·intro vs W lW hN hV
         obtain ⟨gk, gm⟩ : ∃ X, X = W := ⟨W, rfl⟩
         subst gm
         have de : vs 2 = ptr ((bx b).add 1) := (hN 2 (zat rfl))
         obtain ⟨vs, rfl⟩ := zao de
         refine Tr.mono (Run.tr (R.ld (v := O) rfl rfl ((dc.up lW rfl).cell rfl))) ?_
         rintro _ _ ⟨hu, rfl⟩
         obtain rfl := hu.symm
         exact ⟨gk, rfl, Le.refl _ _, (show (O : Value) = O from rfl)⟩
        ·intro vs W lW hN hV
         obtain ⟨jc, gn⟩ : ∃ X, X = W := ⟨W, rfl⟩
         subst gn
         have go := ((((A.trans B).trans Q).trans an).trans a2).t lW rfl
         have df : vs 3 = O := (hN 3 (zat rfl))
         obtain ⟨vs, rfl⟩ := zao df
         refine Tr.mono (T.call rfl (p144 (k0 := 8) (r49.ul go) gb)) ?_
         rintro gr _ ⟨ei, rfl, gs, ⟨_, rfl, gu⟩⟩
         exact ⟨ei, rfl, gs, (show Ow ei 8 [] [gr] U from gu)⟩
        ·intro vs W lW hN hV
         obtain ⟨ej, gv⟩ : ∃ X, X = W := ⟨W, rfl⟩
         subst gv
         have dg : vs 1 = vS a.Path := (hN 1 (zat rfl))
         obtain ⟨vs, rfl⟩ := zao dg
         obtain ⟨d, a3⟩ : ∃ v, vs 4 = v := ⟨_, rfl⟩
         obtain ⟨vs, rfl⟩ := zao a3
         have gw : Ow ej 8 [] [d] U := (hN 4 (zat rfl))
         refine Tr.mono (Run.tr (R.bd (zs := [vI 0, vS ([] : Str), vS ([] : Str), .slice none 0 0, .slice none 0 0]) (cs := [vI 2, vS a.Path, vS ([] : Str), d, .slice none 0 0]) [(0, vI 2), (1, vS a.Path), (3, d)] rfl rfl rfl (zaD rfl rfl (zaD rfl rfl (zaD gw.oc rfl zdN))))) ?_
         rintro _ _ ⟨hu, rfl⟩
         obtain rfl := hu.symm
         exact ⟨ej, rfl, Le.refl _ _, (show (.agg [vI 2, vS a.Path, vS ([] : Str), d, .slice none 0 0].toArray : Value) = .agg [vI 2, vS a.Path, vS ([] : Str), d, .slice none 0 0].toArray from rfl)⟩
        ·intro vs W lW hN hV
         obtain ⟨jd, gx⟩ : ∃ X, X = W := ⟨W, rfl⟩
         subst gx
         refine Tr.mono (T.alloc 9 (cs := [vI 0, vS ([] : Str), vS ([] : Str), .slice none 0 0, .slice none 0 0]) rfl) ?_
         rintro _ _ ⟨dh, ek, rfl, rfl, gy, gz⟩
         exact ⟨ek, rfl, gy, (show (ptr (bx dh) : Value) = ptr (bx dh) ∧ Bx ek 9 dh [vI 0, vS ([] : Str), vS ([] : Str), .slice none 0 0, .slice none 0 0] from ⟨rfl, gz⟩)⟩
        ·intro vs W lW hN hV
         obtain ⟨el, g0⟩ : ∃ X, X = W := ⟨W, rfl⟩
         subst g0
         obtain ⟨d, a3⟩ : ∃ v, vs 4 = v := ⟨_, rfl⟩
         obtain ⟨vs, rfl⟩ := zao a3
         have g1 : Ow el 8 [] [d] U := (hN 4 (zat rfl))
         have di : vs 5 = .agg [vI 2, vS a.Path, vS ([] : Str), d, .slice none 0 0].toArray := (hN 5 (zat rfl))
         obtain ⟨vs, rfl⟩ := zao di
         obtain ⟨e, dj⟩ : ∃ e, vs 6 = ptr (bx e) := ⟨_, ((hN 6 (zat rfl))).1⟩
         obtain ⟨vs, rfl⟩ := zao dj
         have g2 : Bx el 9 e [vI 0, vS ([] : Str), vS ([] : Str), .slice none 0 0, .slice none 0 0] := (hN 6 (zat rfl)).2
         refine Tr.mono (T.sta (vs := [vI 2, vS a.Path, vS ([] : Str), d, .slice none 0 0]) g2 rfl rfl (zaa rfl (zaa rfl (zaa rfl (zaa g1.oc (zaa rfl zaR))))) rfl rfl) ?_
         rintro _ _ ⟨em, rfl, g3, g4⟩
         exact ⟨em, rfl, g3, (show (ptr (bx e)) = ptr (bx e) ∧ Bx em 9 e [vI 2, vS a.Path, vS ([] : Str), d, .slice none 0 0] from ⟨rfl, g4⟩)⟩
        ·intro vs W lW hN
         obtain ⟨a5, g5⟩ : ∃ X, X = W := ⟨W, rfl⟩
         subst g5
         have cb := lW.s rfl
         obtain ⟨g6, hl212⟩ : ∃ x, x = lW := ⟨lW, rfl⟩
         have dd : vs 0 = ptr ((bx b).add 0) := (hN 0 (zat rfl))
         obtain ⟨vs, rfl⟩ := zao dd
         have dg : vs 1 = vS a.Path := (hN 1 (zat rfl))
         obtain ⟨vs, rfl⟩ := zao dg
         have de : vs 2 = ptr ((bx b).add 1) := (hN 2 (zat rfl))
         obtain ⟨vs, rfl⟩ := zao de
         have df : vs 3 = O := (hN 3 (zat rfl))
         obtain ⟨vs, rfl⟩ := zao df
         obtain ⟨d, a3⟩ : ∃ v, vs 4 = v := ⟨_, rfl⟩
         obtain ⟨vs, rfl⟩ := zao a3
         have g7 : Ow a5 8 [] [d] U := (hN 4 (zat rfl))
         have di : vs 5 = .agg [vI 2, vS a.Path, vS ([] : Str), d, .slice none 0 0].toArray := (hN 5 (zat rfl))
         obtain ⟨vs, rfl⟩ := zao di
         obtain ⟨e, dj⟩ : ∃ e, vs 6 = ptr (bx e) := ⟨_, (hN 7 (zat rfl)).1⟩
         obtain ⟨vs, rfl⟩ := zao dj
         have g8 : Bx a5 9 e [vI 2, vS a.Path, vS ([] : Str), d, .slice none 0 0] := (hN 7 (zat rfl)).2
         obtain ⟨en, g9, hm⟩ := zaS hm
         refine Cw.join 47 86 [6, 13, 14, 15] (fun l w => ∃ cc ao ap aq cd ce cf dk dl dm a6 a7 V, CW.w V = w ∧ Le [3, 9, 12, 13] a5 V ∧ l = [cf, dk, dl, dm] ∧ Ow V 3 [] [cf] cc ∧ Ow V 8 [] [a6] cd ∧ Ow V 10 [] [a7] ce ∧ Bx V 9 e [vI ao, vS ap, vS aq, a6, a7] ∧ en cc ao ap aq cd ce = some r) ?_ ?_
         ·rintro _ _ σ ⟨cc, ao, ap, aq, cd, ce, cf, dk, dl, dm, a6, a7, V, rfl, eo, rfl, ha, hb, hc, he, hm⟩
          rw [g9] at hm
          refine rg (mv L rfl (la he (Lw.t rfl (T.bs 11 [.agg [vI ao, vS ap, vS aq, a6, a7].toArray] (cs := [vI ao, vS ap, vS aq, a6, a7]) rfl rfl (bsA rfl)) ?_)))
          rintro _ _ ⟨je, jf, rfl, rfl, a8, hf⟩
          obtain ⟨hg, hh, hm⟩ := ob hm
          refine Lw.t rfl (T.app1 (α := Change) (J := [8, 10]) (K' := []) ((((c7.up a1).up lW rfl).up eo).up a8) hf (Change.own ao ap aq cd ce (hb.up a8).s (hc.up a8).s) rfl rfl hh) ?_
          rintro ep _ ⟨hi, rfl, er, hj⟩
          exact Nv ep rfl ((ag) ⟨hg, cc, ep, cf, ptr (bx b), i, vB P.2, ptr (bx e), dk, dl, dm, hi, rfl, ((((((((ak.j am).j C).j D).j a1).j g6).j eo).j a8).j er).w, rfl, hj, ((ha.up a8).up er), hm⟩)
         ·refine sr (mv ah rfl (Lw.ln x1 (H.ul ((((((z.trans A).trans B).trans Q).trans an).trans a2).trans cb)) rfl (mi rfl (nl (Cw.block (Cw.loop 49 86 [6, 13, 14, 15, 49] (fun m l w => ∃ a9 cg ba bb bc be bg Y dn dp dq bh bi Z, CW.w Z = w ∧ Le [3, 9, 13] a5 Z ∧ l = [Y, dn, dp, dq, vI cg] ∧ Ow Z 3 [] [Y] a9 ∧ Ow Z 8 [] [bh] be ∧ Ow Z 12 [] [bi] bg ∧ Bx Z 9 e [vI ba, vS bb, vS bc, bh, bi] ∧ Vm.zcu x0 x1 a en m a9 cg ba bb bc be bg = some r) _ ⟨I, 0, 2, a.Path, ([] : Str), U, ([] : List Hunk), N, ax, ay, az, d, .slice none 0 0, a5, rfl, Le.refl _ _, rfl, ((c8.up a1).up lW rfl), g7, owN 12 [], g8, hm⟩ ?_))))))
          rintro (_ | jg) _ _ σ ⟨a9, cg, ba, bb, bc, be, bg, Y, dn, dp, dq, bh, bi, Z, rfl, bj, rfl, es, et, eu, ew, hm⟩
          ·cases hm
          unfold Vm.zcu at hm
          have dr := bj.s
          refine sr (Lw.lt rfl (nl (Cw.seq (cn hm (fun hm => ?_) fun hm => ?_))))
          ·refine sk (Cw.seq (Cw.block (sr ?_)))
           obtain ⟨bk, ex, hm⟩ := ob hm
           have ey := H.ul (((((((z.trans A).trans B).trans Q).trans an).trans a2).trans cb).trans dr)
           refine Lw.r rfl (R.ix (α := File) ey ex rfl rfl rfl) ?_
           obtain ⟨x289, c290, _, r291⟩ := (ey.at_ ex).cells
           obtain ⟨jh, rfl, r293⟩ := File.split r291
           refine Lw.r rfl (R.lda c290 rfl rfl) (al 13 [vS ([] : Str), .slice none 0 0] fun ez ji E hk => ?_)
           have ds := E.o
           refine sta hk (zaa rfl (zaa r293.oc zaR)) fun jj F bl => ?_
           have dt := F.s
           refine nl (sr (mv af rfl (fl bl rfl (cr hm (fun _ => p151 (k0 := 14) (h0.ul (((((((((z.trans A).trans B).trans Q).trans an).trans a2).trans cb).trans dr).trans ds).trans dt))) ?_))))
           rintro ar _ e0 hm f ⟨aa, rfl, jk⟩
           have e1 := f.o
           have du := ((es.up E).up F).up f
           have e2 := ((((dc.up lW rfl).up bj).up E).up F).up f
           refine mv (.tuple [aa, vB ar.2].toArray) rfl (Lw.r rfl (R.ext (vs := [aa, vB ar.2]) (v := aa) rfl rfl) (Lw.r rfl (R.ext (vs := [aa, vB ar.2]) (v := vB ar.2) rfl rfl) (Gv aa rfl (Nb rfl ?_))))
           obtain ⟨hl, hn, hm⟩ := zaS hm
           refine Cw.join 60 75 [75] (fun l w => ∃ dv ch, CW.w ch = w ∧ Le [] e0 ch ∧ l = [vB dv] ∧ hl dv = some r) ?_ ?_
           ·rintro _ _ σ ⟨dv, ch, rfl, k, rfl, hm⟩
            rw [hn] at hm
            have e3 := (((ew.up E).up F).up f).up k
            refine cn hm (fun hm => ?_) fun hm => ?_
            ·refine sr (fl (e2.up k) rfl (fl ((bl.up f).up k) rfl (Lw.r rfl (R.bd (zs := [vI 0, vS ([] : Str), vS ([] : Str), .slice none 0 0, .slice none 0 0]) (cs := [vI 4, vS a.Path, vS bk.Path, .slice none 0 0, .slice none 0 0]) [(0, vI 4), (1, vS a.Path), (2, vS bk.Path)] rfl rfl rfl (zaD rfl rfl (zaD rfl rfl (zaD rfl rfl zdN)))) (sta e3 (zaa rfl (zaa rfl (zaa rfl (zaa rfl (zaa rfl zaR))))) fun jl dw ho => nl (sr (mv Y rfl (fl (((bl.up f).up k).up dw) rfl (Lw.t rfl (T.bs 15 [vS bk.Path] (cs := [vS bk.Path]) rfl rfl (bsv rfl)) ?_))))))))
             rintro _ _ ⟨jm, jo, rfl, rfl, dx, hp⟩
             obtain ⟨hq, hr, hm⟩ := ob hm
             refine Lw.t rfl (T.app1S (α := Str) (K' := []) (((du.up k).up dw).up dx) hp (rdS _) rfl rfl hr) ?_
             rintro e4 _ ⟨hs, rfl, e5, ht⟩
             exact Nv e4 rfl (Cw.exit ((ag) ⟨hq, 4, a.Path, bk.Path, ([] : List Str), ([] : List Hunk), e4, ptr (bx ez), aa, vB ar.2, .slice none 0 0, .slice none 0 0, hs, rfl, (((((((bj.j E).j F).j f).j k).j dw).j dx).j e5).w, rfl, ht, owN 8 [], owN 10 [], ((ho.up dx).up e5), hm⟩))
            ·exact sk (rg (Lw.add rfl (mi rfl (nl ((agm) ⟨a9, w64 (cg + 1), ba, bb, bc, be, bg, Y, ptr (bx ez), aa, vB ar.2, bh, bi, ch, rfl, ((((bj.j E).j F).j f).j k).w, rfl, (du.up k), ((((et.up E).up F).up f).up k), ((((eu.up E).up F).up f).up k), e3, hm⟩)))))
           ·refine rg (mb rfl (Lw.r rfl (R.not rfl) (mb rfl (bs hm (fun bm hm => ?_) fun bm hm => ?_))))
            ·refine wak 5 bm (fl (bl.up f) rfl (fl e2 rfl (ca hm (fun _ => p152 (r293.ul ((ds.trans dt).trans e1)) (r49.ul (((((((((A.trans B).trans Q).trans an).trans a2).trans cb).trans dr).trans ds).trans dt).trans e1))) fun jp hw hm ci => Pb bm rfl (mb rfl (bs hm (fun bn hm => ?_) fun bn hm => ?_)))))
             ·exact wak 5 bn (mv Y rfl (fl ((bl.up f).up ci) rfl (ca hm (fun _ => p102 (K := [3]) (du.up ci).rd) fun hx hy hm hz => Lw.r rfl (R.not rfl) (Pb bn rfl (nl ((ag) ⟨(!hx), hy, rfl, (ci.j hz).w, rfl, hm⟩))))))
             ·exact psk 5 bn rfl (Pb bn rfl (nl ((ag) ⟨false, hw, rfl, ci, rfl, hm⟩)))
            ·exact psk 5 bm rfl (Pb bm rfl (mb rfl (psk 5 rfl rfl (Pb rfl rfl (nl ((ag) ⟨false, e0, rfl, Le.refl _ _, rfl, hm⟩))))))
          ·refine Cw.exit ?_
           obtain ⟨h2, h3, cj, h4⟩ := eu.dyeO 10
           exact (ag) ⟨a9, ba, bb, bc, be, bg, Y, dn, dp, dq, bh, bi, h2, h3, (bj.j cj).w, rfl, (es.up cj), (et.up cj), h4, (ew.up cj), hm⟩
     ·refine rg (mb rfl (mb rfl (bs hm (fun bp hm => ?_) fun bp hm => ?_)))
      ·exact wak 4 bp (mv i rfl (fl (c5.up C) rfl (ca hm (fun _ => p152 (K := [0, 5]) (ef.rd.sub (M := [0, 5]) rfl) ((r49.ul ((A.trans B).trans Q)).sub (M := [0, 5]) rfl)) fun h5 h6 hm h7 => Pb bp rfl (Nb rfl ((ag) ⟨h5, h6, rfl, h7, rfl, hm⟩)))))
      ·exact psk 4 bp rfl (Pb bp rfl (Nb rfl ((ag) ⟨false, ee, rfl, Le.refl _ _, rfl, hm⟩)))
   ·refine Cw.exit ?_
    rw [ft] at hm
    refine ssr (mv ah rfl (Lw.ln x1 (H.ul z) rfl (mi rfl (nl (Cw.block ?_)))))
    obtain ⟨h8, h9, hm⟩ := zaS hm
    refine Cw.loop 114 143 [5, 17, 18, 19, 114] (fun m l w => ∃ ck cl G e6 e7 e8 bq, CW.w bq = w ∧ Le [2, 16, 18] y bq ∧ l = [G, e6, e7, e8, vI cl] ∧ Ow bq 2 [] [G] ck ∧ Vm.zaW x0 x1 I h8 m ck cl = some r) _ ⟨y7, 0, L, undef, undef, undef, y, rfl, Le.refl _ _, rfl, o9, hm⟩ ?_
    rintro (_ | jq) _ _ σ ⟨ck, cl, G, e6, e7, e8, bq, rfl, dy, rfl, e9, hm⟩
    ·cases hm
    unfold Vm.zaW at hm
    have cm := z.t dy
    refine sr (Lw.lt rfl (nl (Cw.seq (cn hm (fun hm => ?_) fun hm => ?_))))
    ·refine sk ?_
     obtain ⟨ia, ib, hm⟩ := zaS hm
     refine Cw.join 116 142 [5, 17, 18, 19] (fun l w => ∃ co cp dz d0 d1 br, CW.w br = w ∧ Le [2, 16, 18] bq br ∧ l = [cp, dz, d0, d1] ∧ Ow br 2 [] [cp] co ∧ ia co = some r) ?_ ?_
     ·rintro _ _ σ ⟨co, cp, dz, d0, d1, br, rfl, ic, rfl, id, hm⟩
      rw [ib] at hm
      exact rg (Lw.add rfl (mi rfl (nl ((agm) ⟨co, w64 (cl + 1), cp, dz, d0, d1, br, rfl, (dy.j ic).w, rfl, id, hm⟩))))
     ·refine Cw.block (sr ?_)
      obtain ⟨bu, fb, hm⟩ := ob hm
      refine Lw.r rfl (R.ix (α := File) (H.ul cm) fb rfl rfl rfl) ?_
      obtain ⟨x448, c449, _, r450⟩ := ((H.ul cm).at_ fb).cells
      obtain ⟨jr, rfl, r452⟩ := File.split r450
      refine Lw.r rfl (R.lda c449 rfl rfl) (al 16 [vS ([] : Str), .slice none 0 0] fun fc js bv ie => ?_)
      have fd := bv.o
      refine sta ie (zaa rfl (zaa r452.oc zaR)) fun jt bw d2 => ?_
      have fe := bw.s
      refine nl (sr (mv af rfl (fl d2 rfl (cr hm (fun _ => p151 (k0 := 17) (h0.ul ((cm.trans fd).trans fe))) ?_))))
      rintro au _ ff hm ac ⟨ae, rfl, ju⟩
      have ig := (fd.trans fe).n ac
      refine mv (.tuple [ae, vB au.2].toArray) rfl (Lw.r rfl (R.ext (vs := [ae, vB au.2]) (v := ae) rfl rfl) (Lw.r rfl (R.ext (vs := [ae, vB au.2]) (v := vB au.2) rfl rfl) (Gv ae rfl (Nb rfl ?_))))
      obtain ⟨ih, ii, hm⟩ := zaS hm
      refine Cw.join 125 133 [133] (fun l w => ∃ d3 cq, CW.w cq = w ∧ Le [] ff cq ∧ l = [vB d3] ∧ ih d3 = some r) ?_ ?_
      ·rintro _ _ σ ⟨d3, cq, rfl, bz, rfl, hm⟩
       rw [ii] at hm
       have ij := ig.n bz
       have fg := (((e9.up bv).up bw).up ac).up bz
       refine cn hm (fun hm => ?_) fun hm => ?_
       ·refine Cw.draw [2, 18] [(0, 0), (1, 0), (2, 1), (3, 0), (4, 1), (5, 2), (6, 0), (7, 2), (8, 2), (9, 0)] mixed (by kernel_rfl) fun jv ct => ?_
        have ik := ij.n ct
        have fh := ((d2.up ac).up bz).up ct
        refine Dv G rfl (Dfl fh rfl rfl rfl (Dfl fh rfl rfl rfl (Dc hm (Le.refl _ _) (fun _ => p144 (k0 := 18) (r452.ul ik)) rfl ?_)))
        rintro il cu jw hm fi ⟨_, rfl, fj⟩ im
        refine Mw.p rfl rfl (fun _ => R.bd (zs := [vI 0, vS ([] : Str), vS ([] : Str), .slice none 0 0, .slice none 0 0]) (cs := [vI 1, vS bu.Path, vS ([] : Str), cu, .slice none 0 0]) [(0, vI 1), (1, vS bu.Path), (3, cu)] rfl rfl rfl (zaD rfl rfl (zaD rfl rfl (zaD fj.oc rfl zdN)))) (Mw.t rfl rfl (T.bs 19 [.agg [vI 1, vS bu.Path, vS ([] : Str), cu, .slice none 0 0].toArray] (cs := [vI 1, vS bu.Path, vS ([] : Str), cu, .slice none 0 0]) rfl rfl (bsA rfl)) ?_)
        rintro _ _ ⟨jx, jy, rfl, rfl, cv, io⟩
        refine mc im cv fun ip => ?_
        obtain ⟨iq, ir, hm⟩ := ob hm
        refine Mw.t rfl rfl (T.app1 (α := Change) (J := [18]) (K' := []) (((fg.up ct).up fi).up cv) io (Change.own 1 bu.Path ([] : Str) il ([] : List Hunk) (fj.up cv).s (zm5 [])) rfl rfl ir) ?_
        rintro fm _ ⟨it, rfl, fn, iu⟩
        exact mc ip fn fun jz => Hv fm rfl (Mw.nil ((ag) ⟨iq, fm, ptr (bx fc), ae, vB au.2, it, rfl, (((((((bv.j bw).j ac).j bz).j ct).j fi).j cv).j fn).w, rfl, iu, hm⟩))
       ·exact sk ((ag) ⟨ck, G, ptr (bx fc), ae, vB au.2, cq, rfl, (((bv.j bw).j ac).j bz).w, rfl, fg, hm⟩)
      ·refine rg (mb rfl (Lw.r rfl (R.not rfl) (mb rfl (bs hm (fun b0 hm => ?_) fun b0 hm => ?_))))
       ·exact wak 5 b0 (mv N rfl (fl (d2.up ac) rfl (ca hm (fun _ => p102 (K := [3]) ((((ec.up dy).up bv).up bw).up ac).rd) fun iv iw hm iy => Lw.r rfl (R.not rfl) (Pb b0 rfl (nl ((ag) ⟨(!iv), iw, rfl, iy, rfl, hm⟩))))))
       ·exact psk 5 b0 rfl (Pb b0 rfl (nl ((ag) ⟨false, ff, rfl, Le.refl _ _, rfl, hm⟩)))
    ·refine Cw.exit ?_
     rw [h9] at hm
     refine sr (mv G rfl (Nv G rfl ?_))
     cases hm
     exact Cw.ret (zhB rfl (Res.mk cm ⟨G, rfl, e9.s.sub rfl rfl⟩))
 ·refine rg (mv af rfl (ca hm (fun _ => p85 h0 d5) fun j0 iz hm d4 => ?_))
  have fo := d4.o
  refine Lw.r rfl (R.not rfl) (mb rfl (bs hm (fun b1 hm => ?_) fun b1 hm => ?_))
  ·exact psk 3 b1 rfl (Pb b1 rfl (nl ((ag) ⟨true, iz, rfl, d4, rfl, hm⟩)))
  ·exact wak 3 b1 (mv ah rfl (ca hm (fun _ => p85 (H.ul fo) (d5.ul fo)) fun i0 i1 hm i2 => Lw.r rfl (R.not rfl) (Pb b1 rfl (nl ((ag) ⟨(!i0), i1, rfl, (d4.j i2).w, rfl, hm⟩)))))
theorem p100 {x0 b x1 d k0 r} (f : Rd W K [b] x0) (h : Rd W K [d] x1) (i : Gl 0 W K) (hm : Vm.ze9 x0 x1 = some r) : Q1 100 [b, d] W [] fun W' v => ∃ a, v = a ∧ Ow W' k0 [] [a] r :=
 (c100 (f.view _) (h.view _) (i.view _) hm).ad (fk k0) fun _ _ ⟨a, e, k⟩ => ⟨a, e, k.back (zfR _)⟩
theorem c99 {x0 x r} (y : Rd W0 [0] [x] x0) (hm : Vm.zf7 x0 = some r) : Q0 99 [x] W0 fun Wf v => ∃ G, v = G ∧ OwS Wf LL [] [G] r := by
 unfold Vm.zf7 at hm
 refine zaj.of Tryz.func99 rfl rfl rfl rfl (sr (Nv (.slice none 0 0) rfl (sr (Nv (.slice none 0 0) rfl (ssr (mv x rfl (Lw.ln x0 y rfl (mi rfl (nl (Cw.block ?_))))))))))
 obtain ⟨U, V, hm⟩ := zaS hm
 refine Cw.loop 8 25 [3, 5, 8] (fun m l w => ∃ z e a H b, CW.w b = w ∧ Le [2, 3] W0 b ∧ l = [a, H, vI e] ∧ Ow b 2 [] [a] z ∧ Vm.zda x0 U m z e = some r) _ ⟨([] : List Str), 0, .slice none 0 0, undef, W0, rfl, Le.refl _ _, rfl, owN 2 [], hm⟩ ?_
 rintro (_ | m8) _ _ σ ⟨z, e, a, H, b, rfl, I, rfl, J, hm⟩
 ·cases hm
 unfold Vm.zda at hm
 have A := I.s
 refine sr (Lw.lt rfl (nl (Cw.seq (cn hm (fun hm => ?_) fun hm => ?_))))
 ·refine sk ?_
  obtain ⟨W, X, hm⟩ := zaS hm
  refine Cw.join 10 24 [3, 5] (fun l w => ∃ f h B d, CW.w d = w ∧ Le [2, 3] b d ∧ l = [h, B] ∧ Ow d 2 [] [h] f ∧ W f = some r) ?_ ?_
  ·rintro _ _ σ ⟨f, h, B, d, rfl, Y, rfl, Z, hm⟩
   rw [X] at hm
   exact rg (Lw.add rfl (mi rfl (nl ((agm) ⟨f, w64 (e + 1), h, B, d, rfl, (I.j Y).w, rfl, Z, hm⟩))))
  ·refine Cw.block (sr ?_)
   obtain ⟨i, L, hm⟩ := ob hm
   refine Lw.r rfl (R.ix (α := Change) (y.ul A) L rfl rfl rfl) ?_
   obtain ⟨x21, c22, _, r23⟩ := ((y.ul A).at_ L).cells
   obtain ⟨av, aw, rfl, r25, r27⟩ := Change.split r23
   refine Lw.r rfl (R.lda c22 rfl rfl) (al 3 [vI 0, vS ([] : Str), vS ([] : Str), .slice none 0 0, .slice none 0 0] fun M ax C aa => sta aa (zaa rfl (zaa rfl (zaa rfl (zaa r25.oc (zaa r27.oc zaR))))) fun ay D N => nl (sr (mv a rfl (fl N rfl (Lw.t rfl (T.bs 4 [vS i.Path] (cs := [vS i.Path]) rfl rfl (bsv rfl)) ?_)))))
   rintro _ _ ⟨az, a0, rfl, rfl, k, ac⟩
   obtain ⟨ae, af, hm⟩ := ob hm
   refine Lw.t rfl (T.app1S (α := Str) (K' := []) (((J.up C).up D).up k) ac (rdS _) rfl rfl af) ?_
   rintro E _ ⟨ah, rfl, F, O⟩
   have P := (N.up k).up F
   refine Nv E rfl (sr (fl P rfl (Lw.eq rfl (nl (cn hm (fun hm => ?_) fun hm => ?_)))))
   ·refine rg (mv E rfl (fl P rfl (Lw.t rfl (T.bs 5 [vS i.To] (cs := [vS i.To]) rfl rfl (bsv rfl)) ?_)))
    rintro _ _ ⟨a1, a2, rfl, rfl, Q, ai⟩
    obtain ⟨aj, ak, hm⟩ := ob hm
    refine Lw.t rfl (T.app1S (α := Str) (K' := []) (O.up Q) ai (rdS _) rfl rfl ak) ?_
    rintro S _ ⟨am, rfl, an, ao⟩
    exact Nv S rfl ((ag) ⟨aj, S, ptr (bx M), am, rfl, (((((C.j D).j k).j F).j Q).j an).w, rfl, ao, hm⟩)
   ·exact sk ((ag) ⟨ae, E, ptr (bx M), ah, rfl, (((C.j D).j k).j F).w, rfl, O, hm⟩)
 ·refine Cw.exit ?_
  rw [V] at hm
  refine sr (mv a rfl (cr hm (fun _ => p150 (K := [0]) (c0 := 2) J rfl) ?_))
  rintro a3 _ a4 hm ap ⟨rfl, aq⟩
  have ar := A.t ap
  refine nl (sr (mv a rfl (Nv a rfl ?_)))
  cases hm
  exact Cw.ret (zhB rfl (Res.mk ar ⟨a, rfl, aq.s.sub rfl rfl⟩))
theorem p99 {x0 b k0 r} (d : Rd W K [b] x0) (hm : Vm.zf7 x0 = some r) : Q1 99 [b] W [] fun W' v => ∃ a, v = a ∧ Ow W' k0 [] [a] r :=
 (c99 (d.view _) hm).ad (fk k0) fun _ _ ⟨a, e, f⟩ => ⟨a, e, f.back (zfR _)⟩
theorem c101 {x0 x x1 r} (y : Rd W0 [0] [x] x0) (K : Gl 0 W0 [0]) (hm : Vm.zf8 x0 x1 = some r) : Q0 101 [x, vS x1] W0 fun Wf v => v = vS r := by
 unfold Vm.zf8 at hm
 refine zaj.of Tryz.func101 rfl rfl rfl rfl (sr (Ns rfl (Cw.seq ?_)))
 obtain ⟨K3, af, hm⟩ := zaS hm
 refine Cw.join 8 15 [15] (fun l w => ∃ L M, CW.w M = w ∧ Le [] W0 M ∧ l = [vB L] ∧ K3 L = some r) ?_ ?_
 ·rintro _ _ σ ⟨L, M, rfl, l2, rfl, hm⟩
  rw [af] at hm
  have Q := l2.o
  refine cn hm (fun hm => ?_) fun hm => ?_
  ·exact sr (Ns rfl (.ret (rt hm Q)))
  ·refine sk (sr (al 2 [vS ([] : Str), vS ([] : Str)] fun S T l6 b6 => ?_))
   have U := Q.n l6
   refine nl (ssr (mv x rfl (Lw.ln x0 (y.ul U) rfl (mi rfl (nl (Cw.block ?_))))))
   obtain ⟨ak, am, hm⟩ := zaS hm
   refine Cw.loop 18 42 [7, 18] (fun m l w => ∃ z a A V b, CW.w b = w ∧ Le [2, 3] T b ∧ l = [V, vI z] ∧ Bx b 2 S [vS a, vS A] ∧ Vm.zdb x0 x1 ak m z a A = some r) _ ⟨0, ([] : Str), ([] : Str), undef, T, rfl, Le.refl _ _, rfl, b6, hm⟩ ?_
   rintro (_ | a8) _ _ σ ⟨z, a, A, V, b, rfl, W, rfl, X, hm⟩
   ·cases hm
   unfold Vm.zdb at hm
   have B := U.t W
   refine sr (Lw.lt rfl (nl (Cw.seq (cn hm (fun hm => ?_) fun hm => ?_))))
   ·refine sk ?_
    obtain ⟨an, ao, hm⟩ := zaS hm
    refine Cw.join 20 41 [7] (fun l w => ∃ C D N d, CW.w d = w ∧ Le [2, 3] b d ∧ l = [N] ∧ Bx d 2 S [vS C, vS D] ∧ an C D = some r) ?_ ?_
    ·rintro _ _ σ ⟨C, D, N, d, rfl, ap, rfl, aq, hm⟩
     rw [ao] at hm
     exact rg (Lw.add rfl (mi rfl (nl ((agm) ⟨w64 (z + 1), C, D, N, d, rfl, (W.j ap).w, rfl, aq, hm⟩))))
    ·refine Cw.block (sr ?_)
     obtain ⟨E, Y, hm⟩ := ob hm
     refine Lw.r rfl (R.ix (α := Owner) (y.ul B) Y rfl rfl rfl) ?_
     obtain ⟨x29, c30, _, r31⟩ := ((y.ul B).at_ Y).cells
     obtain rfl := Owner.split r31
     refine Lw.r rfl (R.lda c30 rfl rfl) (al 3 [vS ([] : Str), vS ([] : Str)] fun Z a9 F ar => ?_)
     have au := B.n F
     refine sta ar (zaa rfl (zaa rfl zaR)) fun aa G e => ?_
     have av := au.t G
     have H := (X.up F).up G
     refine nl ?_
     obtain ⟨aw, ax, hm⟩ := zaS hm
     refine Cw.join 22 40 [40] (fun l w => ∃ O I, CW.w I = w ∧ Le [] aa I ∧ l = [vB O] ∧ aw O = some r) ?_ ?_
     ·rintro _ _ σ ⟨O, I, rfl, f, rfl, hm⟩
      rw [ax] at hm
      refine cn hm (fun hm => ?_) fun hm => ?_
      ·exact rg (la (e.up f) (sta (H.up f) (zaa rfl (zaa rfl zaR)) fun ay az a0 => nl ((ag) ⟨E.Path, E.Who, ptr (bx Z), ay, rfl, (((F.j G).j f).j az).w, rfl, a0, hm⟩)))
      ·exact sk ((ag) ⟨a, A, ptr (bx Z), I, rfl, ((F.j G).j f).w, rfl, (H.up f), hm⟩)
     ·refine rg (fl e rfl (ms rfl (Lw.seq rfl (mb rfl (bs hm (fun h hm => ?_) fun h hm => ?_)))))
      ·exact psk 4 h rfl (Pb h rfl (mb rfl (wak 7 rfl (fl e rfl (Lw.r rfl (R.lenS rfl) (fl H rfl (Lw.r rfl (R.lenS rfl) (Lw.gt rfl (Pb rfl rfl (nl ((ag) ⟨decide (((a.length : Int) : Int) < ((E.Path.length : Int) : Int)), aa, rfl, Le.refl _ _, rfl, hm⟩)))))))))))
      ·refine wak 4 h (fl e rfl (ms rfl (ca hm (fun _ => p143 (K.ul av)) fun ba ac hm J => Pb h rfl (mb rfl (bs hm (fun i hm => ?_) fun i hm => ?_)))))
       ·exact wak 7 i (fl (e.up J) rfl (Lw.r rfl (R.lenS rfl) (fl (H.up J) rfl (Lw.r rfl (R.lenS rfl) (Lw.gt rfl (Pb i rfl (nl ((ag) ⟨decide (((a.length : Int) : Int) < ((E.Path.length : Int) : Int)), ac, rfl, J, rfl, hm⟩))))))))
       ·exact psk 7 i rfl (Pb i rfl (nl ((ag) ⟨false, ac, rfl, J, rfl, hm⟩)))
   ·refine Cw.exit ?_
    rw [am] at hm
    exact sr (fl X rfl (Ns rfl (.ret (rt hm B))))
 ·refine rg (mv x rfl (ca hm (fun _ => p97 y K) fun bb a1 hm P => ?_))
  have a2 := P.o
  refine Lw.r rfl (R.not rfl) (mb rfl (bs hm (fun k hm => ?_) fun k hm => ?_))
  ·exact psk 3 k rfl (Pb k rfl (nl ((ag) ⟨true, a1, rfl, P, rfl, hm⟩)))
  ·exact wak 3 k (ms rfl (ca hm (fun _ => p142 (K.ul a2)) fun a3 a5 hm a6 => Lw.r rfl (R.not rfl) (Pb k rfl (nl ((ag) ⟨(!a3), a5, rfl, (P.j a6).w, rfl, hm⟩)))))
theorem p101 {x0 a x1 r} (b : Rd W K [a] x0) (d : Gl 0 W K) (hm : Vm.zf8 x0 x1 = some r) : Q1 101 [a, vS x1] W [] fun W' v => v = vS r :=
 (c101 (b.view _) (d.view _) hm).ad (fk 0) fun _ _ e => e
theorem c103 {x0 a x1 r} (i : Rd W0 [0] [a] x0) (hm : Vm.zf9 x0 x1 = some r) : Q0 103 [a, vS x1] W0 fun Wf v => ∃ d, v = d ∧ OwS Wf LL [] [d] r := by
 unfold Vm.zf9 at hm
 refine zaj.of Tryz.func103 rfl rfl rfl rfl (sr (Nv (.slice none 0 0) rfl (sr (Lw.t rfl (T.lit0 (α := Str) 2 []) ?_))))
 rintro P _ ⟨Q, rfl, k, x⟩
 have e := k.o
 refine mv a rfl ?_
 obtain ⟨R, y, hm⟩ := ob hm
 refine Lw.t rfl (T.appP (α := Str) x (i.ul e) rfl rfl y) ?_
 rintro S _ ⟨U, rfl, z, A⟩
 have B := e.t z
 refine ms rfl (Lw.t rfl (T.bs 3 [vS x1] (cs := [vS x1]) rfl rfl (bsv rfl)) ?_)
 rintro _ _ ⟨V, W, rfl, rfl, f, C⟩
 have D := B.n f
 obtain ⟨X, E, hm⟩ := ob hm
 refine Lw.t rfl (T.app1S (α := Str) (K' := []) (A.up f) C (rdS _) rfl rfl E) ?_
 rintro b _ ⟨Y, rfl, F, G⟩
 have H := D.t F
 refine Nv b rfl (sr (mv b rfl (cr hm (fun _ => p150 (K := [0]) (c0 := 2) G rfl) ?_)))
 rintro Z _ aa hm I ⟨rfl, J⟩
 have L := H.t I
 refine nl (sr (mv b rfl (cr hm (fun _ => p155 (K := [0]) (k0 := 4) (c0 := 2) J rfl) ?_)))
 rintro ac h ae hm M ⟨_, rfl, N⟩
 have O := L.t M
 refine Nv h rfl ?_
 cases hm
 exact Cw.ret (zhB rfl (Res.mk O ⟨h, rfl, N.s.sub rfl rfl⟩))
theorem p103 {x0 b x1 k0 r} (d : Rd W K [b] x0) (hm : Vm.zf9 x0 x1 = some r) : Q1 103 [b, vS x1] W [] fun W' v => ∃ a, v = a ∧ Ow W' k0 [] [a] r :=
 (c103 (d.view _) hm).ad (fk k0) fun _ _ ⟨a, e, f⟩ => ⟨a, e, f.back (zfR _)⟩
theorem c30 {x0 i k x1 J x2 a5 r} (h0 : Rd W0 [0] [i, k] x0) (h1 : Rd W0 [0] [J] x1) (h2 : Rd W0 [0] [vS x2.Branch, vS x2.Into, vS x2.By, a5] x2) (L : Gl 0 W0 [0]) (hm : Vm.zdP x0 x1 x2 = some r) : Q0 30 [.agg [i, k].toArray, J, .agg [vS x2.Branch, vS x2.Into, vS x2.By, a5].toArray] W0 fun Wf v => ∃ u0, v = .tuple [u0, vB r.2].toArray ∧ OwS Wf LL [] [u0] r.1 := by
 unfold Vm.zdP at hm
 obtain ⟨dk, dl, a8, d, e⟩ := Repo.split h0
 simp only [List.cons.injEq, and_true, true_and] at a8
 obtain ⟨rfl, rfl⟩ := a8
 obtain ⟨dm, ba, bb⟩ := Review.split h2
 simp only [List.cons.injEq, and_true, true_and] at ba
 obtain rfl := ba
 refine zaj.of Tryz.func30 rfl rfl rfl rfl (sr (bo 2 rfl fun g1 W1 l1 b1 => ?_))
 have a2 := l1.o
 refine bo 3 rfl fun g3 W3 l3 b3 => ?_
 have x := a2.n l3
 have Y := b1.up l3
 refine Gv (.slice none 0 0) rfl (Nb rfl (Cw.seq ?_))
 obtain ⟨K8, cc, hm⟩ := zaS hm
 refine Cw.join 14 40 [40] (fun l w => ∃ Z W7, CW.w W7 = w ∧ Le [] W3 W7 ∧ l = [vB Z] ∧ K8 Z = some r) ?_ ?_
 ·rintro _ _ σ ⟨Z, W7, rfl, l7, rfl, hm⟩
  rw [cc] at hm
  have a9 := x.n l7
  refine cn hm (fun hm => ?_) fun hm => ?_
  ·refine sr (Gv (.slice none 0 0) rfl (Nb rfl ?_))
   cases hm
   exact Cw.ret (zoI rfl rfl (Res.mk a9 ⟨.slice none 0 0, rfl, (zm5 []).sub rfl rfl⟩))
  ·refine sk (Cw.seq (Cw.draw [] [(0, 1), (1, 0), (2, 1), (4, 1), (5, 0), (6, 1), (3, 2), (7, 3), (8, 0), (9, 0)] mixed (by kernel_rfl) fun dr ae => ?_))
   have af := a9.n ae
   have ah := (Y.up l7).up ae
   have ai := (b3.up l7).up ae
   refine Mw.q rfl rfl (fun _ c => R.lda (cs := [i, k]) (ah.clcs rfl c) rfl rfl) (Dfl ai rfl rfl rfl (Mw.q rfl rfl (fun _ c => R.lda (cs := [i, k]) (ah.clcs rfl c) rfl rfl) (Dfl ai rfl rfl rfl ?_)))
   obtain ⟨ds, cd, hm⟩ := ob hm
   refine Mw.t rfl rfl (T.call rfl (p65  (Repo.rd (K := [0]) x0.Commits x0.Heads (d.ul af) (e.ul af)) cd)) ?_
   rintro _ _ ⟨dt, rfl, N, rfl⟩
   have aj := af.n N
   refine m0 N fun du => ?_
   obtain ⟨dv, ce, hm⟩ := ob hm
   refine Mw.l rfl rfl (T.call rfl (p65  (Repo.rd (K := [0]) x0.Commits x0.Heads (d.ul aj) (e.ul aj)) ce)) ?_
   rintro _ _ ⟨dw, rfl, ak, rfl⟩
   have cf := aj.n ak
   refine Hi rfl (Hi rfl (Mw.nil (sr (Nv (.slice none 0 0) rfl (Cw.seq (Cw.seq (Cw.draw [] [(0, 1), (1, 0), (2, 0), (4, 1), (5, 0), (10, 0), (3, 2), (6, 3), (7, 3), (8, 2), (9, 0)] mixed (by kernel_rfl) fun dx am => ?_)))))))
   have an := cf.n am
   have bh := ((ah.up N).up ak).up am
   refine Mw.q rfl rfl (fun _ c => R.lda (cs := [i, k]) (bh.clcs rfl c) rfl rfl) (Di rfl (Di rfl (Mw.q rfl rfl (fun _ c => R.lda (cs := [i, k]) (bh.clcs rfl c) rfl rfl) (Di rfl (Di rfl ?_)))))
   obtain ⟨dy, cg, hm⟩ := ob hm
   refine Mw.t rfl rfl (T.call rfl (p79  (Repo.rd (K := [0]) x0.Commits x0.Heads (d.ul an) (e.ul an)) cg)) ?_
   rintro dz _ ⟨d0, rfl, O, ⟨_, rfl, ch⟩⟩
   have ci := ch.sub (M := [0]) rfl
   have P := an.n O
   refine m0 O fun d1 => ?_
   obtain ⟨d2, cj, hm⟩ := ob hm
   refine Mw.l rfl rfl (T.call rfl (p80  (Repo.rd (K := [0]) x0.Commits x0.Heads (d.ul P) (e.ul P)) cj)) ?_
   rintro d3 _ ⟨d4, rfl, ao, ⟨_, rfl, ck⟩⟩
   have cl := ck.sub (M := [0]) rfl
   have ap := ao.o
   obtain ⟨d5, cm, hm⟩ := ob hm
   refine Mw.l rfl rfl (T.call rfl (p100 (k0 := 4) (ci.ul ap) cl (L.ul (P.trans ap)) cm)) ?_
   rintro d6 _ ⟨d7, rfl, aq, ⟨_, rfl, co⟩⟩
   have cp := (P.trans ap).n aq
   obtain ⟨bi, cq, hm⟩ := ob hm
   refine Mw.t rfl rfl (T.call rfl (p99 (K := [4]) (k0 := 5) co.rd cq)) ?_
   rintro d8 _ ⟨bj, rfl, ar, ⟨_, rfl, au⟩⟩
   have ct := cp.n ar
   refine ⟨⟨_, rfl, ((O.sub (M := []) rfl).trans ((ao.sub (M := []) rfl).trans ((aq.sub (M := []) rfl).trans (ar.sub (M := []) rfl))))⟩, ?_⟩
   refine Mw.p rfl rfl (fun _ => zs4 (xs := bi) au.rd rfl) (Mw.nil (Cw.block ?_))
   obtain ⟨cu, cv, hm⟩ := zaS hm
   refine Cw.loop 59 84 [10, 12, 13, 59] (fun m l w => ∃ Q S a bk bl y, CW.w y = w ∧ Le [7] bj y ∧ l = [a, bk, bl, vI S] ∧ Ow y 6 [] [a] Q ∧ Vm.zbp x1 x2 bi cu m Q S = some r) _ ⟨([] : List Str), 0, .slice none 0 0, undef, undef, bj, rfl, Le.refl _ _, rfl, owN 6 [], hm⟩ ?_
   rintro (_ | d9) _ _ σ ⟨Q, S, a, bk, bl, y, rfl, z, rfl, bm, hm⟩
   ·cases hm
   unfold Vm.zbp at hm
   have U := ct.t z
   refine sr (Lw.lt rfl (nl (Cw.seq (cn hm (fun hm => ?_) fun hm => ?_))))
   ·refine sk ?_
    obtain ⟨cw, cx, hm⟩ := zaS hm
    refine Cw.join 61 83 [10, 12, 13] (fun l w => ∃ V W av aw A, CW.w A = w ∧ Le [7] y A ∧ l = [W, av, aw] ∧ Ow A 6 [] [W] V ∧ cw V = some r) ?_ ?_
    ·rintro _ _ σ ⟨V, W, av, aw, A, rfl, cy, rfl, cz, hm⟩
     rw [cx] at hm
     exact rg (Lw.add rfl (mi rfl (nl ((agm) ⟨V, w64 (S + 1), W, av, aw, A, rfl, (z.j cy).w, rfl, cz, hm⟩))))
    ·refine Cw.block (sr ?_)
     obtain ⟨bn, bp, hm⟩ := ob hm
     refine Lw.r rfl (R.ix (α := Str) (au.up z).rd bp rfl rfl rfl) (Lw.r rfl (R.ld rfl rfl ((au.up z).rd.at_ bp).str) (Ns rfl (sr (mv J rfl (ms rfl (ca hm (fun _ => p101 (h1.ul U) (L.ul U)) fun bq ax hm B => ?_))))))
     have c0 := U.n B
     have br := ((((((((ai.up N).up ak).up am).up O).up ao).up aq).up ar).up z).up B
     refine Ns rfl ?_
     obtain ⟨c1, c2, hm⟩ := zaS hm
     refine Cw.join 66 80 [80] (fun l w => ∃ ay X, CW.w X = w ∧ Le [] ax X ∧ l = [vB ay] ∧ c1 ay = some r) ?_ ?_
     ·rintro _ _ σ ⟨ay, X, rfl, az, rfl, hm⟩
      rw [c2] at hm
      have bu := (bm.up B).up az
      refine cn hm (fun hm => ?_) fun hm => ?_
      ·refine rg (mv a rfl (ms rfl (cr hm (fun _ => p103 (K := [6]) (k0 := 7) bu.rd) ?_)))
       rintro c3 bv ea hm c4 ⟨_, rfl, c5⟩
       refine Nv bv rfl ?_
       obtain ⟨c6, c7, c8, c9⟩ := c5.dyeO 6
       exact (ag) ⟨c3, bv, vS bn, vS bq, c6, c7, (((B.j az).j c4).j c8).w, rfl, c9, hm⟩
      ·exact sk ((ag) ⟨Q, a, vS bn, vS bq, X, rfl, (B.j az).w, rfl, bu, hm⟩)
     ·refine rg (ms rfl (Lw.sne rfl (mb rfl (bs hm (fun C hm => ?_) fun C hm => ?_))))
      ·refine wak 4 C (ms rfl (fl br rfl (Lw.sne rfl (Pb C rfl (mb rfl (bs hm (fun D hm => ?_) fun D hm => ?_))))))
       ·exact wak 5 D (fl br rfl (ms rfl (ca hm (fun _ => p102 (bb.ul c0)) fun da db hm dc => Lw.r rfl (R.not rfl) (Pb D rfl (nl ((ag) ⟨(!da), db, rfl, dc, rfl, hm⟩))))))
       ·exact psk 5 D rfl (Pb D rfl (nl ((ag) ⟨false, ax, rfl, Le.refl _ _, rfl, hm⟩)))
      ·exact psk 4 C rfl (Pb C rfl (mb rfl (psk 5 rfl rfl (Pb rfl rfl (nl ((ag) ⟨false, ax, rfl, Le.refl _ _, rfl, hm⟩))))))
   ·refine Cw.exit ?_
    rw [cv] at hm
    refine sr (mv a rfl (Gv a rfl (Nb rfl ?_)))
    cases hm
    exact Cw.ret (zoI rfl rfl (Res.mk U ⟨a, rfl, bm.s.sub rfl rfl⟩))
 ·refine rg (la Y (ca hm (fun _ => p22 (Repo.rd (K := [0]) x0.Commits x0.Heads (d.ul x) (e.ul x)) (L.ul x)) fun eb dd hm b => ?_))
  have a0 := x.n b
  refine Lw.r rfl (R.not rfl) (mb rfl (bs hm (fun E hm => ?_) fun E hm => ?_))
  ·exact psk 3 E rfl (Pb E rfl (mb rfl (psk 3 rfl rfl (Pb rfl rfl (mb rfl (psk 5 rfl rfl (Pb rfl rfl (mb rfl (psk 5 rfl rfl (Pb rfl rfl (nl ((ag) ⟨true, dd, rfl, b, rfl, hm⟩))))))))))))
  ·refine wak 3 E (mv J rfl (ca hm (fun _ => p97 (h1.ul a0) (L.ul a0)) fun ec de hm f => ?_))
   have bw := a0.n f
   have a1 := (b3.up b).up f
   refine Lw.r rfl (R.not rfl) (Pb E rfl (mb rfl (bs hm (fun F hm => ?_) fun F hm => ?_)))
   ·exact psk 3 F rfl (Pb F rfl (mb rfl (psk 5 rfl rfl (Pb rfl rfl (mb rfl (psk 5 rfl rfl (Pb rfl rfl (nl ((ag) ⟨true, de, rfl, (b.j f).w, rfl, hm⟩)))))))))
   ·refine wak 3 F (la a1 (ca hm (fun _ => p98 (Review.rd (K := [0]) x2.Branch x2.Into x2.By x2.Yes (bb.ul bw))) fun ed df hm h => ?_))
    have a3 := bw.n h
    have bz := ((Y.up b).up f).up h
    refine Lw.r rfl (R.not rfl) (Pb F rfl (mb rfl (bs hm (fun G hm => ?_) fun G hm => ?_)))
    ·exact psk 5 G rfl (Pb G rfl (mb rfl (psk 5 rfl rfl (Pb rfl rfl (nl ((ag) ⟨true, df, rfl, ((b.j f).j h).w, rfl, hm⟩))))))
    ·refine wak 5 G (la bz (fl (a1.up h) rfl (ca hm (fun _ => p65 (Repo.rd (K := [0]) x0.Commits x0.Heads (d.ul a3) (e.ul a3))) fun ee dg hm H => ?_)))
     have b0 := a3.n H
     refine Lw.lt rfl (Pb G rfl (mb rfl (bs hm (fun I hm => ?_) fun I hm => ?_)))
     ·exact psk 5 I rfl (Pb I rfl (nl ((ag) ⟨true, dg, rfl, (((b.j f).j h).j H).w, rfl, hm⟩)))
     ·exact wak 5 I (la (bz.up H) (fl ((a1.up h).up H) rfl (ca hm (fun _ => p65 (Repo.rd (K := [0]) x0.Commits x0.Heads (d.ul b0) (e.ul b0))) fun dh di hm dj => Lw.lt rfl (Pb I rfl (nl ((ag) ⟨decide ((dh : Int) < (0 : Int)), di, rfl, ((((b.j f).j h).j H).j dj).w, rfl, hm⟩))))))
theorem p30 {x0 b d x1 f x2 h k0 r} (i : Rd W K [b, d] x0) (k : Rd W K [f] x1) (x : Rd W K [vS x2.Branch, vS x2.Into, vS x2.By, h] x2) (y : Gl 0 W K) (hm : Vm.zdP x0 x1 x2 = some r) : Q1 30 [.agg [b, d].toArray, f, .agg [vS x2.Branch, vS x2.Into, vS x2.By, h].toArray] W [] fun W' v => ∃ a, v = .tuple [a, vB r.2].toArray ∧ Ow W' k0 [] [a] r.1 :=
 (c30 (i.view _) (k.view _) (x.view _) (y.view _) hm).ad (fk k0) fun _ _ ⟨a, e, z⟩ => ⟨a, e, z.back (zfR _)⟩
theorem c104 {x0 x1 r} (i : Rd W0 [0] [vS x0.Path, vS x0.Who] x0) (k : Rd W0 [0] [vS x1.Path, vS x1.Who] x1) (hm : Vm.zib x0 x1 = some r) : Q0 104 [.agg [vS x0.Path, vS x0.Who].toArray, .agg [vS x1.Path, vS x1.Who].toArray] W0 fun Wf v => v = vB r := by
 unfold Vm.zib at hm
 refine zaj.of Tryz.func104 rfl rfl rfl rfl (sr (bo 2 rfl fun x y f d => ?_))
 have h := f.o
 refine bo 3 rfl fun z A a e => ?_
 have b := h.n a
 refine Nb rfl (ssr (fl (d.up a) rfl (fl e rfl (Lw.sne rfl (nl (cn hm (fun hm => ?_) fun hm => ?_))))))
 ·exact sr (Nb rfl (.ret (rt hm b)))
 ·refine sk (ssr (fl (d.up a) rfl (fl e rfl (Lw.sne rfl (nl (cn hm (fun hm => ?_) fun hm => ?_))))))
  ·exact sr (Nb rfl (.ret (rt hm b)))
  ·exact sk (sr (Nb rfl (.ret (rt hm b))))
theorem p104 {x0 x1 r} (a : Rd W K [vS x0.Path, vS x0.Who] x0) (b : Rd W K [vS x1.Path, vS x1.Who] x1) (hm : Vm.zib x0 x1 = some r) : Q1 104 [.agg [vS x0.Path, vS x0.Who].toArray, .agg [vS x1.Path, vS x1.Who].toArray] W [] fun W' v => v = vB r :=
 (c104 (a.view _) (b.view _) hm).ad (fk 0) fun _ _ e => e
theorem c32 {x0 b x1 e r} (d : Rd W0 [0] [b] x0) (f : Rd W0 [0] [e] x1) (hm : Vm.zhv x0 x1 = some r) : Q0 32 [b, e] W0 fun Wf v => v = vB r := by
 unfold Vm.zhv at hm
 refine zaj.of Tryz.func32 rfl rfl rfl rfl (sr (Nb rfl (ssr (mv b rfl (Lw.ln x0 d rfl (mv e rfl (Lw.ln x1 f rfl (Lw.ne rfl (nl (cn hm (fun hm => ?_) fun hm => ?_))))))))))
 ·exact sr (Nb rfl (.ret (rt hm (Le.refl _ _))))
 ·refine sk (ssr (Ni rfl (Cw.block ?_)))
  obtain ⟨E, F, hm⟩ := zaS hm
  refine Cw.loop 11 26 [4, 5] (fun m l w => ∃ h i k, CW.w k = w ∧ Le [] W0 k ∧ l = [vB h, vI i] ∧ Vm.zeM x0 x1 E m h i = some r) _ ⟨false, 0, W0, rfl, Le.refl _ _, rfl, hm⟩ ?_
  rintro (_ | J) _ _ σ ⟨h, i, k, rfl, A, rfl, hm⟩
  ·cases hm
  unfold Vm.zeM at hm
  have x := A.o
  refine ssr (mi rfl (mv b rfl (Lw.ln x0 (d.ul x) rfl (Lw.lt rfl (nl (cn hm (fun hm => ?_) fun hm => ?_))))))
  ·refine sk (Cw.seq (Cw.block (Cw.seq (Cw.draw [] [(0, 0), (1, 0), (2, 0), (3, 1), (4, 0), (5, 0), (6, 0), (7, 1), (8, 3), (9, 0)] mixed (by kernel_rfl) fun L l10 => ?_))))
   have a := x.n l10
   refine Dv b rfl (Di rfl ?_)
   obtain ⟨B, y, hm⟩ := ob hm
   refine Mw.p rfl rfl (fun _ => R.ix (α := Owner) (d.ul a) y rfl rfl rfl) ?_
   obtain ⟨x15, c16, _, r17⟩ := ((d.ul a).at_ y).cells
   obtain rfl := Owner.split r17
   refine Mw.q rfl rfl (fun _ c => R.lda (zhM ((d.ul a).at_ y).1 rfl c16 c) rfl rfl) (Dv e rfl (Di rfl ?_))
   obtain ⟨C, z, hm⟩ := ob hm
   refine Mw.p rfl rfl (fun _ => R.ix (α := Owner) (f.ul a) z rfl rfl rfl) ?_
   obtain ⟨x21, c22, _, r23⟩ := ((f.ul a).at_ z).cells
   obtain rfl := Owner.split r23
   refine Mw.q rfl rfl (fun _ c => R.lda (zhM ((f.ul a).at_ z).1 rfl c22 c) rfl rfl) ?_
   obtain ⟨M, G, hm⟩ := ob hm
   refine Mw.l rfl rfl (T.call rfl (p104  (Owner.rd (K := [0]) B.Path B.Who ) (Owner.rd (K := [0]) C.Path C.Who ) G)) ?_
   rintro _ _ ⟨H, rfl, D, rfl⟩
   have I := a.n D
   refine Mw.p rfl rfl (fun _ => R.not rfl) (Mw.nil (cn hm (fun hm => ?_) fun hm => ?_))
   ·exact sr (Nb rfl (.ret (rt hm I)))
   ·exact sk (rg (mi rfl (Lw.add rfl (Ni rfl ((agm) ⟨h, w64 (i + 1), H, rfl, ((A.j l10).j D).w, rfl, hm⟩)))))
  ·refine Cw.exit ?_
   rw [F] at hm
   exact sr (Nb rfl (.ret (rt hm x)))
theorem p32 {x0 a x1 b r} (d : Rd W K [a] x0) (f : Rd W K [b] x1) (hm : Vm.zhv x0 x1 = some r) : Q1 32 [a, b] W [] fun W' v => v = vB r :=
 (c32 (d.view _) (f.view _) hm).ad (fk 0) fun _ _ e => e
theorem c33 {x0 e x1 f r} (y : Rd W0 [0] [vS x0.Branch, vS x0.Into, vS x0.By, e] x0) (z : Rd W0 [0] [vS x1.Branch, vS x1.Into, vS x1.By, f] x1) (hm : Vm.zhw x0 x1 = some r) : Q0 33 [.agg [vS x0.Branch, vS x0.Into, vS x0.By, e].toArray, .agg [vS x1.Branch, vS x1.Into, vS x1.By, f].toArray] W0 fun Wf v => v = vB r := by
 unfold Vm.zhw at hm
 obtain ⟨G, h, A⟩ := Review.split y
 simp only [List.cons.injEq, and_true, true_and] at h
 obtain rfl := h
 obtain ⟨H, i, B⟩ := Review.split z
 simp only [List.cons.injEq, and_true, true_and] at i
 obtain rfl := i
 refine zaj.of Tryz.func33 rfl rfl rfl rfl (sr (bo 2 rfl fun I J C D => ?_))
 have E := C.o
 refine bo 3 rfl fun K L k b => ?_
 have a := E.n k
 have d := D.up k
 refine Nb rfl (ssr (fl d rfl (fl b rfl (Lw.sne rfl (nl (cn hm (fun hm => ?_) fun hm => ?_))))))
 ·exact sr (Nb rfl (.ret (rt hm a)))
 ·refine sk (ssr (fl d rfl (fl b rfl (Lw.sne rfl (nl (cn hm (fun hm => ?_) fun hm => ?_))))))
  ·exact sr (Nb rfl (.ret (rt hm a)))
  ·refine sk (ssr (fl d rfl (fl b rfl (Lw.sne rfl (nl (cn hm (fun hm => ?_) fun hm => ?_))))))
   ·exact sr (Nb rfl (.ret (rt hm a)))
   ·refine sk (ssr (fl d rfl (fl b rfl (ca hm (fun _ => p31 (A.ul a) (B.ul a)) fun M N hm F => ?_))))
    have x := a.n F
    refine Lw.r rfl (R.not rfl) (nl (cn hm (fun hm => ?_) fun hm => ?_))
    ·exact sr (Nb rfl (.ret (rt hm x)))
    ·exact sk (sr (Nb rfl (.ret (rt hm x))))
theorem p33 {x0 a x1 b r} (d : Rd W K [vS x0.Branch, vS x0.Into, vS x0.By, a] x0) (f : Rd W K [vS x1.Branch, vS x1.Into, vS x1.By, b] x1) (hm : Vm.zhw x0 x1 = some r) : Q1 33 [.agg [vS x0.Branch, vS x0.Into, vS x0.By, a].toArray, .agg [vS x1.Branch, vS x1.Into, vS x1.By, b].toArray] W [] fun W' v => v = vB r :=
 (c33 (d.view _) (f.view _) hm).ad (fk 0) fun _ _ e => e
theorem c34 {x0 a x1 r} (B : Ow W0 2 [] [a] x0) (hm : Vm.zfZ x0 x1 = some r) : Q0 34 [a, vI x1] W0 fun Wf v => v = vI r.1 ∧ Ow Wf 2 [] [a] r.2 := by
 unfold Vm.zfZ at hm
 refine zaj.of Tryz.func34 rfl rfl rfl rfl (sr (Ni rfl (ssr (Ni rfl (Cw.block ?_)))))
 obtain ⟨C, D, hm⟩ := zaS hm
 refine Cw.loop 6 27 [1, 5] (fun m l w => ∃ b d e f, CW.w f = w ∧ Le [2] W0 f ∧ l = [vI b, vI d] ∧ Ow f 2 [] [a] e ∧ Vm.zdQ C m b d e = some r) _ ⟨x1, 0, x0, W0, rfl, Le.refl _ _, rfl, B, hm⟩ ?_
 rintro (_ | O) _ _ σ ⟨b, d, e, f, rfl, x, rfl, h, hm⟩
 ·cases hm
 unfold Vm.zdQ at hm
 have E := x.s
 refine ssr (mi rfl (mv a rfl (Lw.ln e h.rd rfl (Lw.lt rfl (nl (cn hm (fun hm => ?_) fun hm => ?_))))))
 ·refine sk (Cw.seq (Cw.block (sr (mv a rfl (mi rfl (mi rfl (ca hm (fun _ => p105) fun P Q hm i => ?_)))))))
  obtain ⟨S, y, hm⟩ := ob hm
  refine Lw.r rfl (R.ix (α := Owner) (h.up i).rd y rfl rfl rfl) (Lw.fa rfl ?_)
  obtain ⟨U, F, hm⟩ := ob hm
  refine Lw.u (T.stH (α := Owner) (β := Str) (J := []) (Ow.hole (α := Owner) (β := Str) (jf := 0) (h.up i) y) (OwS.atm (K := []) (rdS _)) F rfl rfl rfl rfl) ?_
  rintro _ _ ⟨V, rfl, G, z⟩
  refine nl (sr (mi rfl (Lw.add rfl (Ni rfl (sr (mv a rfl (mi rfl (mi rfl (ca hm (fun _ => p105) fun W X hm k => ?_)))))))))
  obtain ⟨Y, A, hm⟩ := ob hm
  refine Lw.r rfl (R.ix (α := Owner) (z.up k).rd A rfl rfl rfl) (Lw.fa rfl ?_)
  obtain ⟨H, I, hm⟩ := ob hm
  refine Lw.u (T.stH (α := Owner) (β := Str) (J := []) (Ow.hole (α := Owner) (β := Str) (jf := 1) (z.up k) A) (OwS.atm (K := []) (rdS _)) I rfl rfl rfl rfl) ?_
  rintro _ _ ⟨L, rfl, M, N⟩
  exact nl (rg (mi rfl (Lw.add rfl (Ni rfl (rg (mi rfl (Lw.add rfl (Ni rfl ((agm) ⟨w64 ((w64 (b + 1)) + 1), w64 (d + 1), H, L, rfl, ((((x.j i).j G).j k).j M).w, rfl, N, hm⟩)))))))))
 ·refine Cw.exit ?_
  rw [D] at hm
  refine sr (mi rfl (Ni rfl ?_))
  cases hm
  exact Cw.ret (zhB rfl (Res.mk E ⟨rfl, h⟩))
theorem p34 {x0 a x1 c0 r} (b : Ow W c0 [] [a] x0) (hJ : okJ K [c0] = true) (hm : Vm.zfZ x0 x1 = some r) : Q1 34 [a, vI x1] W [c0] fun W' v => v = vI r.1 ∧ Ow W' c0 [] [a] r.2 :=
 zaj.adJ (J := [c0]) (fun c => bif Nat.beq c 0 then 0 else bif Nat.beq c 2 then c0 else 0) (c34 (b.viewJ 0 hJ) hm) fun _ _ ⟨e, d⟩ => ⟨e, Ow.backJ 0 d rfl⟩
theorem c35 {x0 a x1 r} (d : Ow W0 2 [] [a] x0.Yes) (hm : Vm.zf0 x0 x1 = some r) : Q0 35 [.agg [vS x0.Branch, vS x0.Into, vS x0.By, a].toArray, vI x1] W0 fun Wf v => v = vI r.1 ∧ Ow Wf 2 [] [a] r.2.Yes := by
 unfold Vm.zf0 at hm
 refine zaj.of Tryz.func35 rfl rfl rfl rfl (sr (bo 3 rfl fun x y b e => ?_))
 have f := b.o
 refine Ni rfl (sr (fl e rfl (mi rfl (cr hm (fun _ => p36 (K := [0]) (c0 := 2) (d.up b) rfl) ?_))))
 rintro z _ A hm h ⟨rfl, i⟩
 have k := f.t h
 refine Ni rfl (sr (mi rfl (Ni rfl ?_)))
 cases hm
 exact Cw.ret (zhB rfl (Res.mk k ⟨rfl, i⟩))
theorem p35 {x0 a x1 c0 r} (b : Ow W c0 [] [a] x0.Yes) (hJ : okJ K [c0] = true) (hm : Vm.zf0 x0 x1 = some r) : Q1 35 [.agg [vS x0.Branch, vS x0.Into, vS x0.By, a].toArray, vI x1] W [c0] fun W' v => v = vI r.1 ∧ Ow W' c0 [] [a] r.2.Yes :=
 zaj.adJ (J := [c0]) (fun c => bif Nat.beq c 0 then 0 else bif Nat.beq c 2 then c0 else 0) (c35 (b.viewJ 0 hJ) hm) fun _ _ ⟨e, d⟩ => ⟨e, Ow.backJ 0 d rfl⟩
end Go.Sx
