/- Walks: each function answers as its model, printed by a program of ours. Conditions: the arguments read as they are given. -/
import Derived.Test.YtokbhelngoeblaaGreatDoorCTs
import Derived.Test.YtokbhelngoeblaaGreatDoorCM8
import Derived.Test.YtokbhelngoeblaaGreatDoorCW1
import Derived.Test.YtokbhelngoeblaaGreatDoorCW11
import Derived.Test.YtokbhelngoeblaaGreatDoorCW12
import Derived.Test.YtokbhelngoeblaaGreatDoorCW16
import Derived.Test.YtokbhelngoeblaaGreatDoorCW2
namespace Go.Sx
open Go Go.Proofs Go.Vm Rp
set_option linter.unusedVariables false
set_option linter.unusedSimpArgs false
variable {W W0 : CW} {K : List Nat}
theorem c129 {x0 e f x1 x2 x3 O x4 P r} (h0 : Rd W0 [0] [e, f] x0) (h3 : Rd W0 [0] [O] x3) (h4 : Rd W0 [0] [P] x4) (bn : Gl 0 W0 [0]) (hm : Vm.zcX x0 x1 x2 x3 x4 = some r) : Q0 129 [.agg [e, f].toArray, vS x1, vS x2, O, P] W0 fun Wf v => ∃ bp bq, v = .tuple [.agg [bp, bq].toArray, vI r.2].toArray ∧ OwS Wf [31] [] [bp] r.1.Commits ∧ OwS Wf [32] [] [bq] r.1.Heads := by
 unfold Vm.zcX at hm
 obtain ⟨fb, fc, br, D, E⟩ := Repo.split h0
 simp only [List.cons.injEq, and_true, true_and] at br
 obtain ⟨rfl, rfl⟩ := br
 refine zau.of Tryz.func129 rfl rfl rfl rfl (sr (bo 2 rfl fun g1 W1 l1 b1 => ?_))
 have a2 := l1.o
 refine al 3 [.slice none 0 0, .slice none 0 0] fun g3 W3 Q b3 => ?_
 have S := a2.n Q
 refine Ni rfl (sr (la (b1.up Q) (ms rfl (ca hm (fun _ => p65 (Repo.rd (K := [0]) x0.Commits x0.Heads (D.ul S) (E.ul S))) fun k fh hm l10 => ?_))))
 have U := S.n l10
 have bv := (b1.up Q).up l10
 refine Ni rfl (sr (mv O rfl (la bv (mi rfl (cr hm (fun _ => p80 (Repo.rd (K := [0]) x0.Commits x0.Heads (D.ul U) (E.ul U))) ?_)))))
 rintro fi fj fm hm V ⟨_, rfl, cj⟩
 have ck := cj.sub (M := [0]) rfl
 have H := U.n V
 refine mv P rfl (cr hm (fun _ => p47 (k0 := 4) (h3.ul H) ck (h4.ul H) (bn.ul H)) ?_)
 rintro C _ cl hm Y ⟨i, rfl, cm⟩
 have co : Ow (α := List (Sh Vm.File)) cl 4 [0] [i] C.1 := cm.sub rfl
 have I := H.n Y
 have Z := (bv.up V).up Y
 have bw := ((b3.up l10).up V).up Y
 refine mv (.tuple [i, vB C.2].toArray) rfl (Lw.r rfl (R.ext (vs := [i, vB C.2]) (v := i) rfl rfl) (Lw.r rfl (R.ext (vs := [i, vB C.2]) (v := vB C.2) rfl rfl) (Gv i rfl (Nb rfl (ssr (mb rfl (Lw.r rfl (R.not rfl) (nl (cn hm (fun hm => ?_) fun hm => ?_)))))))))
 ·refine sr (la Z (cr hm (fun _ => p67 (k0 := 5) (k1 := 6) (Repo.rd (K := [0]) x0.Commits x0.Heads (D.ul I) (E.ul I))) ?_))
  rintro fn _ fo hm bz ⟨cp, cq, rfl, b0, b2⟩
  have ct := I.n bz
  refine sta (bw.up bz) (zaa b0.oc (zaa b2.oc zaF)) fun fp aa cu => ?_
  have cv := ct.t aa
  refine Ni rfl ?_
  obtain ⟨fq, cw, ac, cx⟩ := (b0.up aa).dyeO 31
  have cy := cv.t ac
  obtain ⟨fr, cz, ae, c3⟩ := ((b2.up aa).up ac).dyeO 32
  have c4 := cy.t ae
  cases hm
  rw [← cz.trans (cw)]
  exact Cw.ret (zfa rfl ((cu.up ac).up ae) rfl (Res.mk c4 ⟨cp, cq, rfl, (cx.up ae).s, c3.s⟩))
 ·refine sk (Cw.seq ?_)
  obtain ⟨y, c5, hm⟩ := ob hm
  obtain ⟨z, c6, hm⟩ := ob hm
  obtain ⟨a, c7, hm⟩ := ob hm
  refine Cw.par [[], [], [1], [], [], [], [], [6], [1, 2, 3, 4, 5, 6, 7], [0, 1, 2, 3, 4, 5, 6, 7, 8], [0, 1, 2, 3, 4, 5, 6, 7, 8, 9], [0, 1, 2, 3, 4, 5, 6, 7, 8, 9, 10], [0, 1, 2, 3, 4, 5, 6, 7, 8, 9, 10], [], [0, 1, 2, 3, 4, 5, 6, 7, 8, 9, 10, 11, 13], [0, 1, 2, 3, 4, 5, 6, 7, 8, 9, 10, 11, 12, 13, 14]] [[], [], [1], [], [], [], [], [6], [2, 3, 4, 5, 7], [0, 8], [9], [9, 10], [9, 10], [], [9, 11, 13], [12]] [[], [], [], [], [], [], [], [], [7, 8, 9], [10, 11], [], [], [], [], [14], []] [[0], [1], [2], [3], [4], [5], [6], [7], [8], [9], [9, 10], [9, 11], [12], [13], [9, 13], [15]] [[], [], [7, 8], [], [], [], [], [9], [10, 11], [12, 13], [], [], [], [14], [14], []] [0, 1, 3, 4, 5, 6, 9, 10, 11, 12, 14, 15] [7, 8, 9, 10, 11, 14] [fun vs W => (vs 0) = .agg [e, f].toArray, fun vs W => (vs 1) = .agg [e, f].toArray, fun vs W => (vs 2) = .agg [(zae (vs 2) 0), (zae (vs 2) 1)].toArray ∧ Ow W 7 [] [(zae (vs 2) 0)] y.Commits ∧ Ow W 8 [] [(zae (vs 2) 1)] y.Heads, fun vs W => (vs 3) = vS x1, fun vs W => (vs 4) = vS x2, fun vs W => (vs 5) = i, fun vs W => (vs 6) = vI k, fun vs W => Ow W 9 [] [(vs 7)] ([k] : List Int), fun vs W => (vs 8) = .agg [(zae (vs 8) 0), (zae (vs 8) 1)].toArray ∧ Ow W 10 [] [(zae (vs 8) 0)] z.Commits ∧ Ow W 11 [] [(zae (vs 8) 1)] z.Heads, fun vs W => (vs 9) = .tuple [.agg [(zae (zae (vs 9) 0) 0), (zae (zae (vs 9) 0) 1)].toArray, vB a.2].toArray ∧ Ow W 12 [] [(zae (zae (vs 9) 0) 0)] a.1.Commits ∧ Ow W 13 [] [(zae (zae (vs 9) 0) 1)] a.1.Heads, fun vs W => (vs 10) = .tuple [.agg [(zae (zae (vs 9) 0) 0), (zae (zae (vs 9) 0) 1)].toArray, vB a.2].toArray, fun vs W => (vs 11) = .agg [(zae (zae (vs 9) 0) 0), (zae (zae (vs 9) 0) 1)].toArray, fun vs W => (vs 12) = vB a.2, fun vs W => (vs 13) = ptr (bx (pg (vs 13))) ∧ Bx W 14 (pg (vs 13)) [.slice none 0 0, .slice none 0 0], fun vs W => (vs 13) = ptr (bx (pg (vs 13))) ∧ Bx W 14 (pg (vs 13)) [(zae (zae (vs 9) 0) 0), (zae (zae (vs 9) 0) 1)], fun vs W => (vs 15) = vB a.2] [] mixed (by kernel_rfl) rfl zrZ.nil ?_
  intro fs F
  have af := I.n F
  refine ⟨(zaT.cons ?_ (zaT.cons ?_ (zaT.cons ?_ (zaT.cons ?_ (zaT.cons ?_ (zaT.cons ?_ (zaT.cons ?_ (zaT.cons ?_ (zaT.cons ?_ (zaT.cons ?_ (zaT.cons ?_ (zaT.cons ?_ (zaT.cons ?_ (zaT.cons ?_ (zaT.cons ?_ (zaT.cons ?_ zaT.nil)))))))))))))))), (zda.cons (fun vs vs' W W' _ hv l hd h => by (show (vs' 0) = .agg [e, f].toArray); rw [hv 0 (zaq rfl)]; exact h) (zda.cons (fun vs vs' W W' _ hv l hd h => by (show (vs' 1) = .agg [e, f].toArray); rw [hv 1 (zaq rfl)]; exact h) (zda.cons (fun vs vs' W W' _ hv l hd h => by (show (vs' 2) = .agg [(zae (vs' 2) 0), (zae (vs' 2) 1)].toArray ∧ Ow W' 7 [] [(zae (vs' 2) 0)] y.Commits ∧ Ow W' 8 [] [(zae (vs' 2) 1)] y.Heads); rw [hv 2 (zaq rfl)]; exact ⟨h.1, h.2.1.upv l (zbi hd (c := 7) rfl), h.2.2.upv l (zbi hd (c := 8) rfl)⟩) (zda.cons (fun vs vs' W W' _ hv l hd h => by (show (vs' 3) = vS x1); rw [hv 3 (zaq rfl)]; exact h) (zda.cons (fun vs vs' W W' _ hv l hd h => by (show (vs' 4) = vS x2); rw [hv 4 (zaq rfl)]; exact h) (zda.cons (fun vs vs' W W' _ hv l hd h => by (show (vs' 5) = i); rw [hv 5 (zaq rfl)]; exact h) (zda.cons (fun vs vs' W W' _ hv l hd h => by (show (vs' 6) = vI k); rw [hv 6 (zaq rfl)]; exact h) (zda.cons (fun vs vs' W W' _ hv l hd h => by (show Ow W' 9 [] [(vs' 7)] ([k] : List Int)); rw [hv 7 (zaq rfl)]; exact h.upv l (zbi hd (c := 9) rfl)) (zda.cons (fun vs vs' W W' _ hv l hd h => by (show (vs' 8) = .agg [(zae (vs' 8) 0), (zae (vs' 8) 1)].toArray ∧ Ow W' 10 [] [(zae (vs' 8) 0)] z.Commits ∧ Ow W' 11 [] [(zae (vs' 8) 1)] z.Heads); rw [hv 8 (zaq rfl)]; exact ⟨h.1, h.2.1.upv l (zbi hd (c := 10) rfl), h.2.2.upv l (zbi hd (c := 11) rfl)⟩) (zda.cons (fun vs vs' W W' _ hv l hd h => by (show (vs' 9) = .tuple [.agg [(zae (zae (vs' 9) 0) 0), (zae (zae (vs' 9) 0) 1)].toArray, vB a.2].toArray ∧ Ow W' 12 [] [(zae (zae (vs' 9) 0) 0)] a.1.Commits ∧ Ow W' 13 [] [(zae (zae (vs' 9) 0) 1)] a.1.Heads); rw [hv 9 (zaq rfl)]; exact ⟨h.1, h.2.1.upv l (zbi hd (c := 12) rfl), h.2.2.upv l (zbi hd (c := 13) rfl)⟩) (zda.cons (fun vs vs' W W' _ hv l hd h => by (show (vs' 10) = .tuple [.agg [(zae (zae (vs' 9) 0) 0), (zae (zae (vs' 9) 0) 1)].toArray, vB a.2].toArray); rw [hv 9 (zaq rfl), hv 10 (zaq rfl)]; exact h) (zda.cons (fun vs vs' W W' _ hv l hd h => by (show (vs' 11) = .agg [(zae (zae (vs' 9) 0) 0), (zae (zae (vs' 9) 0) 1)].toArray); rw [hv 9 (zaq rfl), hv 11 (zaq rfl)]; exact h) (zda.cons (fun vs vs' W W' _ hv l hd h => by (show (vs' 12) = vB a.2); rw [hv 12 (zaq rfl)]; exact h) (zda.cons (fun vs vs' W W' _ hv l hd h => by (show (vs' 13) = ptr (bx (pg (vs' 13))) ∧ Bx W' 14 (pg (vs' 13)) [.slice none 0 0, .slice none 0 0]); rw [hv 13 (zaq rfl)]; exact ⟨h.1, h.2.up l (zbi hd (c := 14) rfl)⟩) (zda.cons (fun vs vs' W W' _ hv l hd h => by (show (vs' 13) = ptr (bx (pg (vs' 13))) ∧ Bx W' 14 (pg (vs' 13)) [(zae (zae (vs' 9) 0) 0), (zae (zae (vs' 9) 0) 1)]); rw [hv 9 (zaq rfl), hv 13 (zaq rfl)]; exact ⟨h.1, h.2.up l (zbi hd (c := 14) rfl)⟩) (zda.cons (fun vs vs' W W' _ hv l hd h => by (show (vs' 15) = vB a.2); rw [hv 15 (zaq rfl)]; exact h) zda.nil)))))))))))))))), ?_⟩
  ·intro vs W lW hN
   obtain ⟨c8, c9⟩ : ∃ X, X = W := ⟨W, rfl⟩
   subst c9
   refine Tr.mono (Run.tr (R.lda (cs := [e, f]) ((Z.up F).up lW rfl).cells rfl rfl)) ?_
   rintro _ _ ⟨hu, rfl⟩
   obtain rfl := hu.symm
   exact ⟨c8, rfl, Le.refl _ _, (show (.agg [e, f].toArray : Value) = .agg [e, f].toArray from rfl)⟩
  ·intro vs W lW hN
   obtain ⟨da, db⟩ : ∃ X, X = W := ⟨W, rfl⟩
   subst db
   refine Tr.mono (Run.tr (R.lda (cs := [e, f]) ((Z.up F).up lW rfl).cells rfl rfl)) ?_
   rintro _ _ ⟨hu, rfl⟩
   obtain rfl := hu.symm
   exact ⟨da, rfl, Le.refl _ _, (show (.agg [e, f].toArray : Value) = .agg [e, f].toArray from rfl)⟩
  ·intro vs W lW hN
   obtain ⟨ft, dc⟩ : ∃ X, X = W := ⟨W, rfl⟩
   subst dc
   have b4 := af.t lW rfl
   have ah : vs 1 = .agg [e, f].toArray := (hN 1 (zaq rfl))
   obtain ⟨vs, rfl⟩ := zar ah
   refine Tr.mono (T.call rfl (p67 (k0 := 7) (k1 := 8) (Repo.rd (K := [0]) x0.Commits x0.Heads (D.ul b4) (E.ul b4)) c5)) ?_
   rintro _ _ ⟨ai, rfl, dd, ⟨aj, ak, rfl, de, df⟩⟩
   exact ⟨ai, rfl, dd, (show (.agg [aj, ak].toArray : Value) = .agg [aj, ak].toArray ∧ Ow ai 7 [] [aj] y.Commits ∧ Ow ai 8 [] [ak] y.Heads from ⟨rfl, de, df⟩)⟩
  ·intro vs W lW hN
   obtain ⟨dg, dh⟩ : ∃ X, X = W := ⟨W, rfl⟩
   subst dh
   refine Tr.mono (Run.tr (R.mv (v := vS x1) rfl)) ?_
   rintro _ _ ⟨hu, rfl⟩
   obtain rfl := hu.symm
   exact ⟨dg, rfl, Le.refl _ _, (show (vS x1 : Value) = vS x1 from rfl)⟩
  ·intro vs W lW hN
   obtain ⟨di, dj⟩ : ∃ X, X = W := ⟨W, rfl⟩
   subst dj
   refine Tr.mono (Run.tr (R.mv (v := vS x2) rfl)) ?_
   rintro _ _ ⟨hu, rfl⟩
   obtain rfl := hu.symm
   exact ⟨di, rfl, Le.refl _ _, (show (vS x2 : Value) = vS x2 from rfl)⟩
  ·intro vs W lW hN
   obtain ⟨dk, dl⟩ : ∃ X, X = W := ⟨W, rfl⟩
   subst dl
   refine Tr.mono (Run.tr (R.mv (v := i) rfl)) ?_
   rintro _ _ ⟨hu, rfl⟩
   obtain rfl := hu.symm
   exact ⟨dk, rfl, Le.refl _ _, (show (i : Value) = i from rfl)⟩
  ·intro vs W lW hN
   obtain ⟨dm, dn⟩ : ∃ X, X = W := ⟨W, rfl⟩
   subst dn
   refine Tr.mono (Run.tr (R.mv (v := vI k) rfl)) ?_
   rintro _ _ ⟨hu, rfl⟩
   obtain rfl := hu.symm
   exact ⟨dm, rfl, Le.refl _ _, (show (vI k : Value) = vI k from rfl)⟩
  ·intro vs W lW hN
   obtain ⟨dp, dq⟩ : ∃ X, X = W := ⟨W, rfl⟩
   subst dq
   have am : vs 6 = vI k := (hN 6 (zaq rfl))
   obtain ⟨vs, rfl⟩ := zar am
   refine Tr.mono (T.bsS (α := Int) (xs := [k]) 9 [] (W := dp) [vI k] (Each.cons ((rdI _)) Each.nil) rfl) ?_
   rintro dr _ ⟨b5, rfl, ds, dt⟩
   exact ⟨b5, rfl, ds, (show Ow b5 9 [] [dr] ([k] : List Int) from dt)⟩
  ·intro vs W lW hN
   obtain ⟨J, du⟩ : ∃ X, X = W := ⟨W, rfl⟩
   subst du
   obtain ⟨an, ao, dv⟩ : ∃ an ao : Value, vs 2 = .agg [an, ao].toArray := ⟨_, _, (hN 2 (zaq rfl)).1⟩
   obtain ⟨vs, rfl⟩ := zar dv
   have dw : Ow J 7 [] [an] y.Commits := (hN 2 (zaq rfl)).2.1
   have dx : Ow J 8 [] [ao] y.Heads := (hN 2 (zaq rfl)).2.2
   have ap : vs 3 = vS x1 := (hN 3 (zaq rfl))
   obtain ⟨vs, rfl⟩ := zar ap
   have aq : vs 4 = vS x2 := (hN 4 (zaq rfl))
   obtain ⟨vs, rfl⟩ := zar aq
   have ar : vs 5 = i := (hN 5 (zaq rfl))
   obtain ⟨vs, rfl⟩ := zar ar
   obtain ⟨dy, dz⟩ : ∃ v, vs 7 = v := ⟨_, rfl⟩
   obtain ⟨vs, rfl⟩ := zar dz
   have d0 : Ow J 9 [] [dy] ([k] : List Int) := (hN 7 (zaq rfl))
   have d1 : Rd (α := List Vm.File) J [4, 0] [i] C.1 := Ow.rdSh ((co.up F).up lW rfl)
   refine Tr.mono (T.call rfl (p157 (K := [0, 4]) (k0 := 10) (k1 := 11) (c0 := 7) (c1 := 8) (c2 := 9) (x0 := (Vm.Repo.mk y.Commits y.Heads)) dw dx (d1.sub (M := [0, 4]) rfl) d0 rfl c6)) ?_
   rintro _ _ ⟨au, rfl, d2, ⟨av, aw, rfl, d3, d4⟩⟩
   exact ⟨au, rfl, d2, (show (.agg [av, aw].toArray : Value) = .agg [av, aw].toArray ∧ Ow au 10 [] [av] z.Commits ∧ Ow au 11 [] [aw] z.Heads from ⟨rfl, d3, d4⟩)⟩
  ·intro vs W lW hN
   obtain ⟨b6, d5⟩ : ∃ X, X = W := ⟨W, rfl⟩
   subst d5
   have ax := af.t lW rfl
   have ay : vs 0 = .agg [e, f].toArray := (hN 0 (zaq rfl))
   obtain ⟨vs, rfl⟩ := zar ay
   obtain ⟨az, a0, d6⟩ : ∃ az a0 : Value, vs 8 = .agg [az, a0].toArray := ⟨_, _, (hN 8 (zaq rfl)).1⟩
   obtain ⟨vs, rfl⟩ := zar d6
   have d7 : Ow b6 10 [] [az] z.Commits := (hN 8 (zaq rfl)).2.1
   have d8 : Ow b6 11 [] [a0] z.Heads := (hN 8 (zaq rfl)).2.2
   refine Tr.mono (T.call rfl (p156 (k0 := 12) (k1 := 13) (c0 := 10) (c1 := 11) (x1 := (Vm.Repo.mk z.Commits z.Heads)) (Repo.rd (K := [0]) x0.Commits x0.Heads (D.ul ax) (E.ul ax)) d7 d8 (bn.ul ax) rfl c7)) ?_
   rintro _ _ ⟨a1, rfl, d9, ⟨a3, a5, rfl, ea, eb⟩⟩
   exact ⟨a1, rfl, d9, (show (.tuple [.agg [a3, a5].toArray, vB a.2].toArray : Value) = .tuple [.agg [a3, a5].toArray, vB a.2].toArray ∧ Ow a1 12 [] [a3] a.1.Commits ∧ Ow a1 13 [] [a5] a.1.Heads from ⟨rfl, ea, eb⟩)⟩
  ·intro vs W lW hN
   obtain ⟨a6, ec⟩ : ∃ X, X = W := ⟨W, rfl⟩
   subst ec
   obtain ⟨b, d, B⟩ : ∃ b d : Value, vs 9 = .tuple [.agg [b, d].toArray, vB a.2].toArray := ⟨_, _, (hN 9 (zaq rfl)).1⟩
   obtain ⟨vs, rfl⟩ := zar B
   have fu : Ow a6 12 [] [b] a.1.Commits := (hN 9 (zaq rfl)).2.1
   have fv : Ow a6 13 [] [d] a.1.Heads := (hN 9 (zaq rfl)).2.2
   refine Tr.mono (Run.tr (R.mv (v := .tuple [.agg [b, d].toArray, vB a.2].toArray) rfl)) ?_
   rintro _ _ ⟨hu, rfl⟩
   obtain rfl := hu.symm
   exact ⟨a6, rfl, Le.refl _ _, (show (.tuple [.agg [b, d].toArray, vB a.2].toArray : Value) = .tuple [.agg [b, d].toArray, vB a.2].toArray from rfl)⟩
  ·intro vs W lW hN
   obtain ⟨a7, ed⟩ : ∃ X, X = W := ⟨W, rfl⟩
   subst ed
   obtain ⟨b, d, B⟩ : ∃ b d : Value, vs 9 = .tuple [.agg [b, d].toArray, vB a.2].toArray := ⟨_, _, (hN 9 (zaq rfl)).1⟩
   obtain ⟨vs, rfl⟩ := zar B
   have fw : Ow a7 12 [] [b] a.1.Commits := (hN 9 (zaq rfl)).2.1
   have fx : Ow a7 13 [] [d] a.1.Heads := (hN 9 (zaq rfl)).2.2
   have G : vs 10 = .tuple [.agg [b, d].toArray, vB a.2].toArray := (hN 10 (zaq rfl))
   obtain ⟨vs, rfl⟩ := zar G
   refine Tr.mono (Run.tr (R.ext (vs := [.agg [b, d].toArray, vB a.2]) (v := .agg [b, d].toArray) rfl rfl)) ?_
   rintro _ _ ⟨hu, rfl⟩
   obtain rfl := hu.symm
   exact ⟨a7, rfl, Le.refl _ _, (show (.agg [b, d].toArray : Value) = .agg [b, d].toArray from rfl)⟩
  ·intro vs W lW hN
   obtain ⟨a8, ee⟩ : ∃ X, X = W := ⟨W, rfl⟩
   subst ee
   obtain ⟨b, d, B⟩ : ∃ b d : Value, vs 9 = .tuple [.agg [b, d].toArray, vB a.2].toArray := ⟨_, _, (hN 9 (zaq rfl)).1⟩
   obtain ⟨vs, rfl⟩ := zar B
   have fy : Ow a8 12 [] [b] a.1.Commits := (hN 9 (zaq rfl)).2.1
   have fz : Ow a8 13 [] [d] a.1.Heads := (hN 9 (zaq rfl)).2.2
   have G : vs 10 = .tuple [.agg [b, d].toArray, vB a.2].toArray := (hN 10 (zaq rfl))
   obtain ⟨vs, rfl⟩ := zar G
   refine Tr.mono (Run.tr (R.ext (vs := [.agg [b, d].toArray, vB a.2]) (v := vB a.2) rfl rfl)) ?_
   rintro _ _ ⟨hu, rfl⟩
   obtain rfl := hu.symm
   exact ⟨a8, rfl, Le.refl _ _, (show (vB a.2 : Value) = vB a.2 from rfl)⟩
  ·intro vs W lW hN
   obtain ⟨f0, ef⟩ : ∃ X, X = W := ⟨W, rfl⟩
   subst ef
   refine Tr.mono (T.alloc 14 (cs := [.slice none 0 0, .slice none 0 0]) rfl) ?_
   rintro _ _ ⟨a9, b7, rfl, rfl, eg, eh⟩
   exact ⟨b7, rfl, eg, (show (ptr (bx a9) : Value) = ptr (bx a9) ∧ Bx b7 14 a9 [.slice none 0 0, .slice none 0 0] from ⟨rfl, eh⟩)⟩
  ·intro vs W lW hN
   obtain ⟨ba, ei⟩ : ∃ X, X = W := ⟨W, rfl⟩
   subst ei
   obtain ⟨b, d, B⟩ : ∃ b d : Value, vs 9 = .tuple [.agg [b, d].toArray, vB a.2].toArray := ⟨_, _, (hN 9 (zaq rfl)).1⟩
   obtain ⟨vs, rfl⟩ := zar B
   have ej : Ow ba 12 [] [b] a.1.Commits := (hN 9 (zaq rfl)).2.1
   have ek : Ow ba 13 [] [d] a.1.Heads := (hN 9 (zaq rfl)).2.2
   have bb : vs 11 = .agg [b, d].toArray := (hN 11 (zaq rfl))
   obtain ⟨vs, rfl⟩ := zar bb
   obtain ⟨A, bc⟩ : ∃ A, vs 13 = ptr (bx A) := ⟨_, ((hN 13 (zaq rfl))).1⟩
   obtain ⟨vs, rfl⟩ := zar bc
   have el : Bx ba 14 A [.slice none 0 0, .slice none 0 0] := (hN 13 (zaq rfl)).2
   refine Tr.mono (T.sta (vs := [b, d]) el rfl rfl (zaa ej.oc (zaa ek.oc zaF)) rfl rfl) ?_
   rintro _ _ ⟨b8, rfl, em, en⟩
   exact ⟨b8, rfl, em, (show (ptr (bx A)) = ptr (bx A) ∧ Bx b8 14 A [b, d] from ⟨rfl, en⟩)⟩
  ·intro vs W lW hN
   obtain ⟨eo, ep⟩ : ∃ X, X = W := ⟨W, rfl⟩
   subst ep
   have be : vs 12 = vB a.2 := (hN 12 (zaq rfl))
   obtain ⟨vs, rfl⟩ := zar be
   refine Tr.mono (Run.tr (R.as (v := vB a.2) rfl)) ?_
   rintro _ _ ⟨hu, rfl⟩
   obtain rfl := hu.symm
   exact ⟨eo, rfl, Le.refl _ _, (show (vB a.2 : Value) = vB a.2 from rfl)⟩
  ·intro vs W lW hN
   obtain ⟨bg, er⟩ : ∃ X, X = W := ⟨W, rfl⟩
   subst er
   have b9 := af.t lW rfl
   have cb := (bw.up F).up lW rfl
   obtain ⟨f1, hl251⟩ : ∃ x, x = lW := ⟨lW, rfl⟩
   have ay : vs 0 = .agg [e, f].toArray := (hN 0 (zaq rfl))
   obtain ⟨vs, rfl⟩ := zar ay
   have ah : vs 1 = .agg [e, f].toArray := (hN 1 (zaq rfl))
   obtain ⟨vs, rfl⟩ := zar ah
   have ap : vs 3 = vS x1 := (hN 3 (zaq rfl))
   obtain ⟨vs, rfl⟩ := zar ap
   have aq : vs 4 = vS x2 := (hN 4 (zaq rfl))
   obtain ⟨vs, rfl⟩ := zar aq
   have ar : vs 5 = i := (hN 5 (zaq rfl))
   obtain ⟨vs, rfl⟩ := zar ar
   have am : vs 6 = vI k := (hN 6 (zaq rfl))
   obtain ⟨vs, rfl⟩ := zar am
   obtain ⟨b, d, B⟩ : ∃ b d : Value, vs 9 = .tuple [.agg [b, d].toArray, vB a.2].toArray := ⟨_, _, (hN 9 (zaq rfl)).1⟩
   obtain ⟨vs, rfl⟩ := zar B
   have L : Ow bg 12 [] [b] a.1.Commits := (hN 9 (zaq rfl)).2.1
   have N : Ow bg 13 [] [d] a.1.Heads := (hN 9 (zaq rfl)).2.2
   have G : vs 10 = .tuple [.agg [b, d].toArray, vB a.2].toArray := (hN 10 (zaq rfl))
   obtain ⟨vs, rfl⟩ := zar G
   have bb : vs 11 = .agg [b, d].toArray := (hN 11 (zaq rfl))
   obtain ⟨vs, rfl⟩ := zar bb
   have be : vs 12 = vB a.2 := (hN 12 (zaq rfl))
   obtain ⟨vs, rfl⟩ := zar be
   obtain ⟨A, bc⟩ : ∃ A, vs 13 = ptr (bx A) := ⟨_, (hN 14 (zaq rfl)).1⟩
   obtain ⟨vs, rfl⟩ := zar bc
   have cc : Bx bg 14 A [b, d] := (hN 14 (zaq rfl)).2
   have es : vs 15 = vB a.2 := (hN 15 (zaq rfl))
   obtain ⟨vs, rfl⟩ := zar es
   refine ssr (mb rfl (Lw.r rfl (R.not rfl) (nl (cn hm (fun hm => ?_) fun hm => ?_))))
   ·refine sr (Lw.r rfl (R.lda (cs := [b, d]) cc.cells rfl rfl) (sta cb (zaa L.oc (zaa N.oc zaF)) fun f2 bh et => ?_))
    have eu := b9.t bh
    refine Ni rfl ?_
    obtain ⟨f3, ew, bi, ex⟩ := (L.up bh).dyeO 31
    have ey := eu.t bi
    obtain ⟨f4, ez, bj, e0⟩ := ((N.up bh).up bi).dyeO 32
    have e1 := ey.t bj
    cases hm
    rw [← ez.trans (ew)]
    exact Cw.ret (zfa rfl ((et.up bi).up bj) rfl (Res.mk e1 ⟨b, d, rfl, (ex.up bj).s, e0.s⟩))
   ·refine sk (sr (Lw.r rfl (R.lda (cs := [b, d]) cc.cells rfl rfl) (sta cb (zaa L.oc (zaa N.oc zaF)) fun f5 bk e2 => ?_)))
    have e3 := b9.t bk
    refine Ni rfl ?_
    obtain ⟨f6, e4, bl, e5⟩ := (L.up bk).dyeO 31
    have e6 := e3.t bl
    obtain ⟨f7, e7, bm, e8⟩ := ((N.up bk).up bl).dyeO 32
    have e9 := e6.t bm
    cases hm
    rw [← e7.trans (e4)]
    exact Cw.ret (zfa rfl ((e2.up bl).up bm) rfl (Res.mk e9 ⟨b, d, rfl, (e5.up bm).s, e8.s⟩))
theorem p129 {x0 d f x1 x2 x3 h x4 i k0 k1 r} (k : Rd W K [d, f] x0) (x : Rd W K [h] x3) (y : Rd W K [i] x4) (z : Gl 0 W K) (hm : Vm.zcX x0 x1 x2 x3 x4 = some r) : Q1 129 [.agg [d, f].toArray, vS x1, vS x2, h, i] W [] fun W' v => ∃ a b, v = .tuple [.agg [a, b].toArray, vI r.2].toArray ∧ Ow W' k0 [] [a] r.1.Commits ∧ Ow W' k1 [] [b] r.1.Heads :=
 zau.adJ (J := []) (fun c => bif Nat.beq c 0 then 0 else bif Nat.beq c 31 then k0 else bif Nat.beq c 32 then k1 else 0) (c129 (k.view _) (x.view _) (y.view _) (z.view _) hm) fun _ _ ⟨a, b, e, A, B⟩ => ⟨a, b, e, A.one1.backN rfl, B.one1.backN rfl⟩
theorem c70 {x0 d e x1 x2 x3 x4 r} (h0 : Rd W0 [0] [d, e] x0) (a8 : Gl 0 W0 [0]) (hm : Vm.ze4 x0 x1 x2 x3 x4 = some r) : Q0 70 [.agg [d, e].toArray, vS x1, vS x2, vI x3, vB x4] W0 fun Wf v => ∃ an ao, v = .tuple [.agg [an, ao].toArray, vI r.2].toArray ∧ OwS Wf [31] [] [an] r.1.Commits ∧ OwS Wf [32] [] [ao] r.1.Heads := by
 unfold Vm.ze4 at hm
 obtain ⟨ct, cu, ap, a, b⟩ := Repo.split h0
 simp only [List.cons.injEq, and_true, true_and] at ap
 obtain ⟨rfl, rfl⟩ := ap
 refine zau.of Tryz.func70 rfl rfl rfl rfl (sr (bo 2 rfl fun g1 W1 l1 b1 => ?_))
 have a2 := l1.o
 refine al 3 [.slice none 0 0, .slice none 0 0] fun g3 W3 l3 b3 => ?_
 have A := a2.n l3
 have B := b1.up l3
 refine Ni rfl (Cw.seq ?_)
 obtain ⟨K8, bh, hm⟩ := zbk hm
 refine Cw.join 14 28 [28] (fun l w => ∃ P Q, CW.w Q = w ∧ Le [] W3 Q ∧ l = [vB P] ∧ K8 P = some r) ?_ ?_
 ·rintro _ _ σ ⟨P, Q, rfl, f, rfl, hm⟩
  rw [bh] at hm
  have C := A.n f
  refine cn hm (fun hm => ?_) fun hm => ?_
  ·refine sr (la (B.up f) (cr hm (fun _ => p67 (k0 := 4) (k1 := 5) (Repo.rd (K := [0]) x0.Commits x0.Heads (a.ul C) (b.ul C))) ?_))
   rintro cy _ cz hm au ⟨bi, bj, rfl, av, aw⟩
   have bk := C.n au
   refine sta ((b3.up f).up au) (zaa av.oc (zaa aw.oc zaF)) fun c0 S bl => ?_
   have bm := bk.t S
   refine Ni rfl ?_
   obtain ⟨c1, bn, U, bp⟩ := (av.up S).dyeO 31
   have bq := bm.t U
   obtain ⟨c2, br, V, bu⟩ := ((aw.up S).up U).dyeO 32
   have bv := bq.t V
   cases hm
   rw [← br.trans (bn)]
   exact Cw.ret (zfa rfl ((bl.up U).up V) rfl (Res.mk bv ⟨bi, bj, rfl, (bp.up V).s, bu.s⟩))
  ·refine sk (Cw.seq (Cw.draw [] [(0, 1), (1, 1), (2, 0), (5, 1), (6, 0), (3, 2), (4, 2), (7, 2), (8, 0), (9, 0)] mixed (by kernel_rfl) fun c3 W => ?_))
   have X := C.n W
   have D := (B.up f).up W
   refine Mw.q rfl rfl (fun _ c => R.lda (cs := [d, e]) (D.clcs rfl c) rfl rfl) (Mw.q rfl rfl (fun _ c => R.lda (cs := [d, e]) (D.clcs rfl c) rfl rfl) (Di rfl (Mw.q rfl rfl (fun _ c => R.lda (cs := [d, e]) (D.clcs rfl c) rfl rfl) (Di rfl ?_))))
   obtain ⟨c4, bw, hm⟩ := ob hm
   refine Mw.t rfl rfl (T.call rfl (p128  (Repo.rd (K := [0]) x0.Commits x0.Heads (a.ul X) (b.ul X)) bw)) ?_
   rintro _ _ ⟨c5, rfl, E, rfl⟩
   have Y := X.n E
   refine m0 E fun bz => ?_
   obtain ⟨ax, b0, hm⟩ := ob hm
   refine Mw.t rfl rfl (T.call rfl (p80  (Repo.rd (K := [0]) x0.Commits x0.Heads (a.ul Y) (b.ul Y)) b0)) ?_
   rintro h _ ⟨c6, rfl, F, ⟨_, rfl, b2⟩⟩
   have ay := b2.sub (M := [0]) rfl
   have Z := Y.n F
   refine mc bz F fun b4 => ?_
   obtain ⟨az, b6, hm⟩ := ob hm
   refine Mw.t rfl rfl (T.call rfl (p80  (Repo.rd (K := [0]) x0.Commits x0.Heads (a.ul Z) (b.ul Z)) b6)) ?_
   rintro i _ ⟨aa, rfl, G, ⟨_, rfl, b7⟩⟩
   have a0 := b7.sub (M := [0]) rfl
   have ac := G.o
   refine mc b4 G fun c7 => Hv h rfl (Hv i rfl (Mw.nil ?_))
   obtain ⟨b8, b9, hm⟩ := zbk hm
   refine Cw.join 39 41 [12, 13] (fun l w => ∃ ae af H I k, CW.w k = w ∧ Le [] aa k ∧ l = [H, I] ∧ Rd k [0] [H] ae ∧ Rd k [0] [I] af ∧ b8 ae af = some r) ?_ ?_
   ·rintro _ _ σ ⟨ae, af, H, I, k, rfl, ah, rfl, r68, r71, hm⟩
    rw [b9] at hm
    have J := (Z.trans ac).n ah
    refine sr (la ((((D.up E).up F).up G).up ah) (ms rfl (ms rfl (mv H rfl (mv I rfl (cr hm (fun _ => p129 (k0 := 6) (k1 := 7) (Repo.rd (K := [0]) x0.Commits x0.Heads (a.ul J) (b.ul J)) r68 r71 (a8.ul J)) ?_))))))
    rintro ai _ c8 hm a1 ⟨L, N, rfl, a3, a5⟩
    have cb := J.n a1
    refine Lw.r rfl (R.ext (vs := [.agg [L, N].toArray, vI ai.2]) (v := .agg [L, N].toArray) rfl rfl) (Lw.r rfl (R.ext (vs := [.agg [L, N].toArray, vI ai.2]) (v := vI ai.2) rfl rfl) (sta (((((((b3.up f).up W).up E).up F).up G).up ah).up a1) (zaa a3.oc (zaa a5.oc zaF)) fun c9 aj cc => ?_))
    have cd := cb.t aj
    refine Ni rfl ?_
    obtain ⟨da, ce, ak, cf⟩ := (a3.up aj).dyeO 31
    have cg := cd.t ak
    obtain ⟨db, ch, am, ci⟩ := ((a5.up aj).up ak).dyeO 32
    have cj := cg.t am
    cases hm
    rw [← ch.trans (ce)]
    exact Cw.ret (zfa rfl ((cc.up ak).up am) rfl (Res.mk cj ⟨L, N, rfl, (cf.up am).s, ci.s⟩))
   ·refine sr (mb rfl (nl (cn hm (fun hm => ?_) fun hm => ?_)))
    ·exact rg (mv i rfl (mv h rfl (Gv i rfl (Nv h rfl ((ag) ⟨az, ax, i, h, aa, rfl, Le.refl _ _, rfl, a0, (ay.ul ac), hm⟩)))))
    ·exact sk ((ag) ⟨ax, az, h, i, aa, rfl, Le.refl _ _, rfl, (ay.ul ac), a0, hm⟩)
 ·refine rg (la B (ms rfl (ca hm (fun _ => p65 (Repo.rd (K := [0]) x0.Commits x0.Heads (a.ul A) (b.ul A))) fun dc ck hm x => ?_)))
  have cl := A.n x
  refine Lw.lt rfl (mb rfl (bs hm (fun y hm => ?_) fun y hm => ?_))
  ·exact psk 3 y rfl (Pb y rfl (mb rfl (psk 4 rfl rfl (Pb rfl rfl (nl ((ag) ⟨true, ck, rfl, x, rfl, hm⟩))))))
  ·refine wak 3 y (ms rfl (ca hm (fun _ => p84) fun dd cm hm O => ?_))
   have a6 := cl.n O
   refine Lw.r rfl (R.not rfl) (Pb y rfl (mb rfl (bs hm (fun z hm => ?_) fun z hm => ?_)))
   ·exact psk 4 z rfl (Pb z rfl (nl ((ag) ⟨true, cm, rfl, (x.j O).w, rfl, hm⟩)))
   ·exact wak 4 z (la ((B.up x).up O) (mi rfl (ca hm (fun _ => p66 (Repo.rd (K := [0]) x0.Commits x0.Heads (a.ul a6) (b.ul a6))) fun co cp hm cq => Lw.r rfl (R.not rfl) (Pb z rfl (nl ((ag) ⟨(!co), cp, rfl, ((x.j O).j cq).w, rfl, hm⟩))))))
theorem p70 {x0 d f x1 x2 x3 x4 k0 k1 r} (h : Rd W K [d, f] x0) (i : Gl 0 W K) (hm : Vm.ze4 x0 x1 x2 x3 x4 = some r) : Q1 70 [.agg [d, f].toArray, vS x1, vS x2, vI x3, vB x4] W [] fun W' v => ∃ a b, v = .tuple [.agg [a, b].toArray, vI r.2].toArray ∧ Ow W' k0 [] [a] r.1.Commits ∧ Ow W' k1 [] [b] r.1.Heads :=
 zau.adJ (J := []) (fun c => bif Nat.beq c 0 then 0 else bif Nat.beq c 31 then k0 else bif Nat.beq c 32 then k1 else 0) (c70 (h.view _) (i.view _) hm) fun _ _ ⟨a, b, e, k, x⟩ => ⟨a, b, e, k.one1.backN rfl, x.one1.backN rfl⟩
theorem c14 {x0 f cw x1 x2 r} (h0 : Rd W0 [0] [f, cw] x0) (cx : Gl 0 W0 [0]) (hm : Vm.zh8 x0 x1 x2 = some r) : Q0 14 [.agg [f, cw].toArray, vS x1, vI x2] W0 fun Wf v => ∃ cy cz, v = .tuple [.agg [cy, cz].toArray, vI r.2].toArray ∧ OwS Wf [31] [] [cy] r.1.Commits ∧ OwS Wf [32] [] [cz] r.1.Heads := by
 unfold Vm.zh8 at hm
 obtain ⟨hk, hl, c2, y, E⟩ := Repo.split h0
 simp only [List.cons.injEq, and_true, true_and] at c2
 obtain ⟨rfl, rfl⟩ := c2
 refine zau.of Tryz.func14 rfl rfl rfl rfl (sr (bo 2 rfl fun G W1 l1 b1 => ?_))
 have a2 := l1.o
 refine al 3 [.slice none 0 0, .slice none 0 0] fun g3 W3 l3 b3 => ?_
 have a4 := a2.n l3
 refine Ni rfl (ssr (la (b1.up l3) (ca hm (fun _ => p22 (Repo.rd (K := [0]) x0.Commits x0.Heads (y.ul a4) (E.ul a4)) (cx.ul a4)) fun z9 hq hm aj => ?_)))
 have ak := a4.n aj
 have a7 := (b1.up l3).up aj
 refine Lw.r rfl (R.not rfl) (nl (cn hm (fun hm => ?_) fun hm => ?_))
 ·refine sr (Lw.r rfl (R.bd (zs := [.slice none 0 0, .slice none 0 0]) (cs := [.slice none 0 0, .slice none 0 0]) [] rfl rfl rfl zdL) (sta (b3.up aj) (zaa rfl (zaa rfl zaF)) fun hr d1 d2 => ?_))
  have d3 := ak.t d1
  refine Ni rfl ?_
  cases hm
  exact Cw.ret (zfa rfl d2 rfl (Res.mk d3 ⟨.slice none 0 0, .slice none 0 0, rfl, (zqe []).sub rfl rfl, (zqe []).sub rfl rfl⟩))
 ·refine sk (sr (la a7 (ms rfl (ca hm (fun _ => p65 (Repo.rd (K := [0]) x0.Commits x0.Heads (y.ul ak) (E.ul ak))) fun hs c6 hm am => ?_))))
  have a8 := ak.n am
  refine Ni rfl (Cw.seq ?_)
  obtain ⟨d4, d5, hm⟩ := zbk hm
  refine Cw.join 21 28 [28] (fun l w => ∃ a9 ba, CW.w ba = w ∧ Le [] c6 ba ∧ l = [vB a9] ∧ d4 a9 = some r) ?_ ?_
  ·rintro _ _ σ ⟨a9, ba, rfl, bb, rfl, hm⟩
   rw [d5] at hm
   have H := a8.n bb
   have bc := (a7.up am).up bb
   have c7 := ((b3.up aj).up am).up bb
   refine cn hm (fun hm => ?_) fun hm => ?_
   ·refine sr (la bc (cr hm (fun _ => p67 (k0 := 4) (k1 := 5) (Repo.rd (K := [0]) x0.Commits x0.Heads (y.ul H) (E.ul H))) ?_))
    rintro ht _ hw hm c8 ⟨d6, d7, rfl, c9, da⟩
    have d8 := H.n c8
    refine sta (c7.up c8) (zaa c9.oc (zaa da.oc zaF)) fun hx be d9 => ?_
    have ea := d8.t be
    refine Ni rfl ?_
    obtain ⟨hy, eb, bg, ec⟩ := (c9.up be).dyeO 31
    have ed := ea.t bg
    obtain ⟨hz, ee, bh, ef⟩ := ((da.up be).up bg).dyeO 32
    have eg := ed.t bh
    cases hm
    rw [← ee.trans (eb)]
    exact Cw.ret (zfa rfl ((d9.up bg).up bh) rfl (Res.mk eg ⟨d6, d7, rfl, (ec.up bh).s, ef.s⟩))
   ·refine sk (sr (la bc (cr hm (fun _ => p67 (k0 := 6) (k1 := 7) (Repo.rd (K := [0]) x0.Commits x0.Heads (y.ul H) (E.ul H))) ?_)))
    rintro db _ h1 hm bi ⟨h2, h3, rfl, eh, ei⟩
    have ej := H.n bi
    refine ms rfl (mi rfl (cr hm (fun _ => p68 (K := [0]) (k0 := 8) (k1 := 9) (c0 := 6) (c1 := 7) (x0 := (Vm.Repo.mk db.Commits db.Heads)) eh ei rfl) ?_))
    rintro dc _ h4 hm bj ⟨ek, el, rfl, dd, de⟩
    have em := ej.t bj
    refine al 10 [.slice none 0 0, .slice none 0 0] fun df h5 F en => ?_
    have eo := em.n F
    refine sta en (zaa (dd.up F).oc (zaa (de.up F).oc zaF)) fun ep U er => ?_
    have es := eo.t U
    have dg := (((bc.up bi).up bj).up F).up U
    refine nl (ssr (la dg (mi rfl (mi rfl (Lw.t rfl (T.bsS (α := Int) (xs := [x2]) 11 [] (W := ep) [vI x2] (Each.cons ((rdI _)) Each.nil) rfl) ?_)))))
    rintro h6 _ ⟨h7, rfl, I, et⟩
    have bk := es.n I
    refine cr hm (fun _ => p69 (K := [0, 11]) (k0 := 12) ((Repo.rd (K := [0]) x0.Commits x0.Heads (y.ul bk) (E.ul bk)).sub (M := [0, 11]) rfl) (et.rd.sub (M := [0, 11]) rfl)) ?_
    rintro dh h8 di hm J ⟨_, rfl, bl⟩
    have eu := bk.n J
    refine Lw.ln dh bl.rd rfl (mi rfl (nl (Cw.block ?_)))
    obtain ⟨ew, ex, hm⟩ := zbk hm
    refine Cw.loop 42 73 [7, 11, 12, 13, 42] (fun m l w => ∃ V an Y Z L N dj bm bn aa ac i k z, CW.w z = w ∧ Le [10, 15, 16, 17] di z ∧ l = [vI V, dj, bm, bn, vI an] ∧ Ow z 13 [] [aa] Y ∧ Ow z 14 [] [ac] Z ∧ Bx z 3 g3 [aa, ac] ∧ Ow z 8 [] [i] L ∧ Ow z 9 [] [k] N ∧ Bx z 10 df [i, k] ∧ Vm.ze5 x0 x1 dh ew m V an Y Z L N = some r) _ ⟨0, 0, ([] : List Commit), ([] : List Head), dc.Commits, dc.Heads, undef, undef, undef, .slice none 0 0, .slice none 0 0, ek, el, di, rfl, Le.refl _ _, rfl, owN 13 [], owN 14 [], ((((((c7.up bi).up bj).up F).up U).up I).up J), ((((dd.up F).up U).up I).up J), ((((de.up F).up U).up I).up J), ((er.up I).up J), hm⟩ ?_
    rintro (_ | h9) _ _ σ ⟨V, an, Y, Z, L, N, dj, bm, bn, aa, ac, i, k, z, rfl, ae, rfl, dk, dl, bp, ao, ap, aq, hm⟩
    ·cases hm
    unfold Vm.ze5 at hm
    have ar := eu.t ae
    have bq := ((dg.up I).up J).up ae
    refine sr (Lw.lt rfl (nl (Cw.seq (cn hm (fun hm => ?_) fun hm => ?_))))
    ·refine sk ?_
     obtain ⟨ey, ez, hm⟩ := zbk hm
     refine Cw.join 44 72 [7, 11, 12, 13] (fun l w => ∃ au av aw ax ay br bu bv az a0 a1 a3 C, CW.w C = w ∧ Le [10, 15, 16, 17] z C ∧ l = [vI au, br, bu, bv] ∧ Ow C 13 [] [az] av ∧ Ow C 14 [] [a0] aw ∧ Bx C 3 g3 [az, a0] ∧ Ow C 8 [] [a1] ax ∧ Ow C 9 [] [a3] ay ∧ Bx C 10 df [a1, a3] ∧ ey au av aw ax ay = some r) ?_ ?_
     ·rintro _ _ σ ⟨au, av, aw, ax, ay, br, bu, bv, az, a0, a1, a3, C, rfl, e0, rfl, e1, e2, e3, e4, e5, e6, hm⟩
      rw [ez] at hm
      exact rg (Lw.add rfl (mi rfl (nl ((agm) ⟨au, w64 (an + 1), av, aw, ax, ay, br, bu, bv, az, a0, a1, a3, C, rfl, (ae.j e0).w, rfl, e1, e2, e3, e4, e5, e6, hm⟩))))
     ·refine Cw.block (sr ?_)
      obtain ⟨e, dm, hm⟩ := ob hm
      refine Lw.r rfl (R.ix (α := Int) (bl.up ae).rd dm rfl rfl rfl) (Lw.r rfl (R.ld rfl rfl ((bl.up ae).rd.at_ dm).int) (Ni rfl (ssr (fl bq rfl (mi rfl ?_)))))
      obtain ⟨e7, dn, hm⟩ := ob hm
      refine Lw.r rfl (R.ix (α := Commit) (y.ul ar) dn rfl rfl rfl) (Lw.fa rfl ?_)
      obtain ⟨ia, c159, r160⟩ := (Commit.at0 ((y.ul ar).at_ dn)).cell rfl
      refine Lw.r rfl (R.ld rfl rfl c159) (Lw.ln e7.Parents r160 rfl (Lw.gt rfl (nl (cn hm (fun hm => ?_) fun hm => ?_))))
      ·exact Cw.exit ((ag) ⟨V, Y, Z, L, N, vI e, bm, bn, aa, ac, i, k, z, rfl, Le.refl _ _, rfl, dk, dl, bp, ao, ap, aq, hm⟩)
      ·refine sk (Cw.seq ?_)
       obtain ⟨O, dp, hm⟩ := ob hm
       obtain ⟨a, e8, hm⟩ := ob hm
       refine Cw.par [[], [], [], [2], [], [2, 3, 4], [2, 3, 4, 5], [2, 3, 4, 5, 6], [], [0, 1, 2, 3, 4, 5, 6, 7, 8], [0, 1, 2, 3, 4, 5, 6, 7, 8, 9], [0, 1, 2, 3, 4, 5, 6, 7, 8, 9, 10], [0, 1, 2, 3, 4, 5, 6, 7, 8, 9, 10], [], [0, 1, 2, 3, 4, 5, 6, 7, 8, 9, 10, 11, 13], [0, 1, 2, 3, 4, 5, 6, 7, 8, 9, 10, 11, 12, 13, 14]] [[], [], [], [2], [], [3, 4], [5], [6], [], [0, 1, 7, 8], [9], [9, 10], [9, 10], [], [9, 11, 13], [12]] [[], [], [], [], [], [], [], [], [], [], [], [], [], [], [17], []] [[0], [1], [2], [3], [4], [5], [6], [7], [8], [9], [9, 10], [9, 11], [12], [13], [9, 13], [15]] [[], [], [], [], [], [], [], [], [], [15, 16], [], [], [], [17], [17], []] [0, 1, 2, 3, 4, 5, 6, 7, 8, 9, 10, 11, 12, 14, 15] [17] [fun vs W => (vs 0) = .agg [i, k].toArray, fun vs W => (vs 1) = vS x1, fun vs W => (vs 2) = ptr ((bx G).add 0), fun vs W => (vs 3) = f, fun vs W => (vs 4) = vI e, fun vs W => (vs 5) = ptr ((slA f).add ((e).toNat * Rp.sz (Commit))), fun vs W => (vs 6) = ptr (((slA f).add ((e).toNat * Rp.sz (Commit))).add 1), fun vs W => (vs 7) = vS O.Who, fun vs W => (vs 8) = vI e, fun vs W => (vs 9) = .tuple [.agg [(zae (zae (vs 9) 0) 0), (zae (zae (vs 9) 0) 1)].toArray, vI a.2].toArray ∧ Ow W 15 [] [(zae (zae (vs 9) 0) 0)] a.1.Commits ∧ Ow W 16 [] [(zae (zae (vs 9) 0) 1)] a.1.Heads, fun vs W => (vs 10) = .tuple [.agg [(zae (zae (vs 9) 0) 0), (zae (zae (vs 9) 0) 1)].toArray, vI a.2].toArray, fun vs W => (vs 11) = .agg [(zae (zae (vs 9) 0) 0), (zae (zae (vs 9) 0) 1)].toArray, fun vs W => (vs 12) = vI a.2, fun vs W => (vs 13) = ptr (bx (pg (vs 13))) ∧ Bx W 17 (pg (vs 13)) [.slice none 0 0, .slice none 0 0], fun vs W => (vs 13) = ptr (bx (pg (vs 13))) ∧ Bx W 17 (pg (vs 13)) [(zae (zae (vs 9) 0) 0), (zae (zae (vs 9) 0) 1)], fun vs W => (vs 15) = vI a.2] [] mixed (by kernel_rfl) rfl zrZ.nil ?_
       intro ib A
       have a5 := ar.n A
       refine ⟨(zaT.cons ?_ (zaT.cons ?_ (zaT.cons ?_ (zaT.cons ?_ (zaT.cons ?_ (zaT.cons ?_ (zaT.cons ?_ (zaT.cons ?_ (zaT.cons ?_ (zaT.cons ?_ (zaT.cons ?_ (zaT.cons ?_ (zaT.cons ?_ (zaT.cons ?_ (zaT.cons ?_ (zaT.cons ?_ zaT.nil)))))))))))))))), (zda.cons (fun vs vs' W W' _ hv l hd h => by (show (vs' 0) = .agg [i, k].toArray); rw [hv 0 (zaq rfl)]; exact h) (zda.cons (fun vs vs' W W' _ hv l hd h => by (show (vs' 1) = vS x1); rw [hv 1 (zaq rfl)]; exact h) (zda.cons (fun vs vs' W W' _ hv l hd h => by (show (vs' 2) = ptr ((bx G).add 0)); rw [hv 2 (zaq rfl)]; exact h) (zda.cons (fun vs vs' W W' _ hv l hd h => by (show (vs' 3) = f); rw [hv 3 (zaq rfl)]; exact h) (zda.cons (fun vs vs' W W' _ hv l hd h => by (show (vs' 4) = vI e); rw [hv 4 (zaq rfl)]; exact h) (zda.cons (fun vs vs' W W' _ hv l hd h => by (show (vs' 5) = ptr ((slA f).add ((e).toNat * Rp.sz (Commit)))); rw [hv 5 (zaq rfl)]; exact h) (zda.cons (fun vs vs' W W' _ hv l hd h => by (show (vs' 6) = ptr (((slA f).add ((e).toNat * Rp.sz (Commit))).add 1)); rw [hv 6 (zaq rfl)]; exact h) (zda.cons (fun vs vs' W W' _ hv l hd h => by (show (vs' 7) = vS O.Who); rw [hv 7 (zaq rfl)]; exact h) (zda.cons (fun vs vs' W W' _ hv l hd h => by (show (vs' 8) = vI e); rw [hv 8 (zaq rfl)]; exact h) (zda.cons (fun vs vs' W W' _ hv l hd h => by (show (vs' 9) = .tuple [.agg [(zae (zae (vs' 9) 0) 0), (zae (zae (vs' 9) 0) 1)].toArray, vI a.2].toArray ∧ Ow W' 15 [] [(zae (zae (vs' 9) 0) 0)] a.1.Commits ∧ Ow W' 16 [] [(zae (zae (vs' 9) 0) 1)] a.1.Heads); rw [hv 9 (zaq rfl)]; exact ⟨h.1, h.2.1.upv l (zbi hd (c := 15) rfl), h.2.2.upv l (zbi hd (c := 16) rfl)⟩) (zda.cons (fun vs vs' W W' _ hv l hd h => by (show (vs' 10) = .tuple [.agg [(zae (zae (vs' 9) 0) 0), (zae (zae (vs' 9) 0) 1)].toArray, vI a.2].toArray); rw [hv 9 (zaq rfl), hv 10 (zaq rfl)]; exact h) (zda.cons (fun vs vs' W W' _ hv l hd h => by (show (vs' 11) = .agg [(zae (zae (vs' 9) 0) 0), (zae (zae (vs' 9) 0) 1)].toArray); rw [hv 9 (zaq rfl), hv 11 (zaq rfl)]; exact h) (zda.cons (fun vs vs' W W' _ hv l hd h => by (show (vs' 12) = vI a.2); rw [hv 12 (zaq rfl)]; exact h) (zda.cons (fun vs vs' W W' _ hv l hd h => by (show (vs' 13) = ptr (bx (pg (vs' 13))) ∧ Bx W' 17 (pg (vs' 13)) [.slice none 0 0, .slice none 0 0]); rw [hv 13 (zaq rfl)]; exact ⟨h.1, h.2.up l (zbi hd (c := 17) rfl)⟩) (zda.cons (fun vs vs' W W' _ hv l hd h => by (show (vs' 13) = ptr (bx (pg (vs' 13))) ∧ Bx W' 17 (pg (vs' 13)) [(zae (zae (vs' 9) 0) 0), (zae (zae (vs' 9) 0) 1)]); rw [hv 9 (zaq rfl), hv 13 (zaq rfl)]; exact ⟨h.1, h.2.up l (zbi hd (c := 17) rfl)⟩) (zda.cons (fun vs vs' W W' _ hv l hd h => by (show (vs' 15) = vI a.2); rw [hv 15 (zaq rfl)]; exact h) zda.nil)))))))))))))))), ?_⟩
       ·intro vs W lW hN
        obtain ⟨e9, fb⟩ : ∃ X, X = W := ⟨W, rfl⟩
        subst fb
        refine Tr.mono (Run.tr (R.lda (cs := [i, k]) ((aq.up A).up lW rfl).cells rfl rfl)) ?_
        rintro _ _ ⟨hu, rfl⟩
        obtain rfl := hu.symm
        exact ⟨e9, rfl, Le.refl _ _, (show (.agg [i, k].toArray : Value) = .agg [i, k].toArray from rfl)⟩
       ·intro vs W lW hN
        obtain ⟨fc, fd⟩ : ∃ X, X = W := ⟨W, rfl⟩
        subst fd
        refine Tr.mono (Run.tr (R.mv (v := vS x1) rfl)) ?_
        rintro _ _ ⟨hu, rfl⟩
        obtain rfl := hu.symm
        exact ⟨fc, rfl, Le.refl _ _, (show (vS x1 : Value) = vS x1 from rfl)⟩
       ·intro vs W lW hN
        obtain ⟨fe, ff⟩ : ∃ X, X = W := ⟨W, rfl⟩
        subst ff
        refine Tr.mono (Run.tr (R.fa rfl)) ?_
        rintro _ _ ⟨hu, rfl⟩
        obtain rfl := hu.symm
        exact ⟨fe, rfl, Le.refl _ _, (show (ptr ((bx G).add 0) : Value) = ptr ((bx G).add 0) from rfl)⟩
       ·intro vs W lW hN
        obtain ⟨fg, fh⟩ : ∃ X, X = W := ⟨W, rfl⟩
        subst fh
        have bw : vs 2 = ptr ((bx G).add 0) := (hN 2 (zaq rfl))
        obtain ⟨vs, rfl⟩ := zar bw
        refine Tr.mono (Run.tr (R.ld (v := f) rfl rfl (((bq.up A).up lW rfl).cell rfl))) ?_
        rintro _ _ ⟨hu, rfl⟩
        obtain rfl := hu.symm
        exact ⟨fg, rfl, Le.refl _ _, (show (f : Value) = f from rfl)⟩
       ·intro vs W lW hN
        obtain ⟨fi, fj⟩ : ∃ X, X = W := ⟨W, rfl⟩
        subst fj
        refine Tr.mono (Run.tr (R.mv (v := vI e) rfl)) ?_
        rintro _ _ ⟨hu, rfl⟩
        obtain rfl := hu.symm
        exact ⟨fi, rfl, Le.refl _ _, (show (vI e : Value) = vI e from rfl)⟩
       ·intro vs W lW hN
        obtain ⟨fm, fn⟩ : ∃ X, X = W := ⟨W, rfl⟩
        subst fn
        have fo := a5.t lW rfl
        have bz : vs 3 = f := (hN 3 (zaq rfl))
        obtain ⟨vs, rfl⟩ := zar bz
        have b0 : vs 4 = vI e := (hN 4 (zaq rfl))
        obtain ⟨vs, rfl⟩ := zar b0
        refine Tr.mono (Run.tr (R.ix (α := Commit) (y.ul fo) dp rfl rfl rfl)) ?_
        rintro _ _ ⟨hu, rfl⟩
        obtain rfl := hu.symm
        exact ⟨fm, rfl, Le.refl _ _, (show (ptr ((slA f).add ((e).toNat * Rp.sz (Commit))) : Value) = ptr ((slA f).add ((e).toNat * Rp.sz (Commit))) from rfl)⟩
       ·intro vs W lW hN
        obtain ⟨fp, fq⟩ : ∃ X, X = W := ⟨W, rfl⟩
        subst fq
        have b2 : vs 5 = ptr ((slA f).add ((e).toNat * Rp.sz (Commit))) := (hN 5 (zaq rfl))
        obtain ⟨vs, rfl⟩ := zar b2
        refine Tr.mono (Run.tr (R.fa rfl)) ?_
        rintro _ _ ⟨hu, rfl⟩
        obtain rfl := hu.symm
        exact ⟨fp, rfl, Le.refl _ _, (show (ptr (((slA f).add ((e).toNat * Rp.sz (Commit))).add 1) : Value) = ptr (((slA f).add ((e).toNat * Rp.sz (Commit))).add 1) from rfl)⟩
       ·intro vs W lW hN
        obtain ⟨fr, fs⟩ : ∃ X, X = W := ⟨W, rfl⟩
        subst fs
        have ft := a5.t lW rfl
        have b4 : vs 6 = ptr (((slA f).add ((e).toNat * Rp.sz (Commit))).add 1) := (hN 6 (zaq rfl))
        obtain ⟨vs, rfl⟩ := zar b4
        refine Tr.mono (Run.tr (R.ld rfl rfl (Commit.at1 ((y.ul ft).at_ dp)).str)) ?_
        rintro _ _ ⟨hu, rfl⟩
        obtain rfl := hu.symm
        exact ⟨fr, rfl, Le.refl _ _, (show (vS O.Who : Value) = vS O.Who from rfl)⟩
       ·intro vs W lW hN
        obtain ⟨fu, fv⟩ : ∃ X, X = W := ⟨W, rfl⟩
        subst fv
        refine Tr.mono (Run.tr (R.mv (v := vI e) rfl)) ?_
        rintro _ _ ⟨hu, rfl⟩
        obtain rfl := hu.symm
        exact ⟨fu, rfl, Le.refl _ _, (show (vI e : Value) = vI e from rfl)⟩
       ·intro vs W lW hN
        obtain ⟨ic, fw⟩ : ∃ X, X = W := ⟨W, rfl⟩
        subst fw
        have fx := a5.t lW rfl
        have b5 : vs 0 = .agg [i, k].toArray := (hN 0 (zaq rfl))
        obtain ⟨vs, rfl⟩ := zar b5
        have b6 : vs 1 = vS x1 := (hN 1 (zaq rfl))
        obtain ⟨vs, rfl⟩ := zar b6
        have b7 : vs 7 = vS O.Who := (hN 7 (zaq rfl))
        obtain ⟨vs, rfl⟩ := zar b7
        have b8 : vs 8 = vI e := (hN 8 (zaq rfl))
        obtain ⟨vs, rfl⟩ := zar b8
        refine Tr.mono (T.call rfl (p70 (K := [0, 8, 9]) (k0 := 15) (k1 := 16) (x0 := (Vm.Repo.mk L N)) ((Repo.rd (K := [8, 9]) L N (((ao.up A).up lW rfl).rd.sub (M := [8, 9]) rfl) (((ap.up A).up lW rfl).rd.sub (M := [8, 9]) rfl)).sub (M := [0, 8, 9]) rfl) ((cx.ul fx).sub (M := [0, 8, 9]) rfl) e8)) ?_
        rintro _ _ ⟨b9, rfl, fy, ⟨cb, cc, rfl, fz, f0⟩⟩
        exact ⟨b9, rfl, fy, (show (.tuple [.agg [cb, cc].toArray, vI a.2].toArray : Value) = .tuple [.agg [cb, cc].toArray, vI a.2].toArray ∧ Ow b9 15 [] [cb] a.1.Commits ∧ Ow b9 16 [] [cc] a.1.Heads from ⟨rfl, fz, f0⟩)⟩
       ·intro vs W lW hN
        obtain ⟨cd, f1⟩ : ∃ X, X = W := ⟨W, rfl⟩
        subst f1
        obtain ⟨b, d, D⟩ : ∃ b d : Value, vs 9 = .tuple [.agg [b, d].toArray, vI a.2].toArray := ⟨_, _, (hN 9 (zaq rfl)).1⟩
        obtain ⟨vs, rfl⟩ := zar D
        have id : Ow cd 15 [] [b] a.1.Commits := (hN 9 (zaq rfl)).2.1
        have ie : Ow cd 16 [] [d] a.1.Heads := (hN 9 (zaq rfl)).2.2
        refine Tr.mono (Run.tr (R.mv (v := .tuple [.agg [b, d].toArray, vI a.2].toArray) rfl)) ?_
        rintro _ _ ⟨hu, rfl⟩
        obtain rfl := hu.symm
        exact ⟨cd, rfl, Le.refl _ _, (show (.tuple [.agg [b, d].toArray, vI a.2].toArray : Value) = .tuple [.agg [b, d].toArray, vI a.2].toArray from rfl)⟩
       ·intro vs W lW hN
        obtain ⟨ce, f2⟩ : ∃ X, X = W := ⟨W, rfl⟩
        subst f2
        obtain ⟨b, d, D⟩ : ∃ b d : Value, vs 9 = .tuple [.agg [b, d].toArray, vI a.2].toArray := ⟨_, _, (hN 9 (zaq rfl)).1⟩
        obtain ⟨vs, rfl⟩ := zar D
        have ig : Ow ce 15 [] [b] a.1.Commits := (hN 9 (zaq rfl)).2.1
        have ih : Ow ce 16 [] [d] a.1.Heads := (hN 9 (zaq rfl)).2.2
        have af : vs 10 = .tuple [.agg [b, d].toArray, vI a.2].toArray := (hN 10 (zaq rfl))
        obtain ⟨vs, rfl⟩ := zar af
        refine Tr.mono (Run.tr (R.ext (vs := [.agg [b, d].toArray, vI a.2]) (v := .agg [b, d].toArray) rfl rfl)) ?_
        rintro _ _ ⟨hu, rfl⟩
        obtain rfl := hu.symm
        exact ⟨ce, rfl, Le.refl _ _, (show (.agg [b, d].toArray : Value) = .agg [b, d].toArray from rfl)⟩
       ·intro vs W lW hN
        obtain ⟨cf, f3⟩ : ∃ X, X = W := ⟨W, rfl⟩
        subst f3
        obtain ⟨b, d, D⟩ : ∃ b d : Value, vs 9 = .tuple [.agg [b, d].toArray, vI a.2].toArray := ⟨_, _, (hN 9 (zaq rfl)).1⟩
        obtain ⟨vs, rfl⟩ := zar D
        have ii : Ow cf 15 [] [b] a.1.Commits := (hN 9 (zaq rfl)).2.1
        have ij : Ow cf 16 [] [d] a.1.Heads := (hN 9 (zaq rfl)).2.2
        have af : vs 10 = .tuple [.agg [b, d].toArray, vI a.2].toArray := (hN 10 (zaq rfl))
        obtain ⟨vs, rfl⟩ := zar af
        refine Tr.mono (Run.tr (R.ext (vs := [.agg [b, d].toArray, vI a.2]) (v := vI a.2) rfl rfl)) ?_
        rintro _ _ ⟨hu, rfl⟩
        obtain rfl := hu.symm
        exact ⟨cf, rfl, Le.refl _ _, (show (vI a.2 : Value) = vI a.2 from rfl)⟩
       ·intro vs W lW hN
        obtain ⟨ik, f4⟩ : ∃ X, X = W := ⟨W, rfl⟩
        subst f4
        refine Tr.mono (T.alloc 17 (cs := [.slice none 0 0, .slice none 0 0]) rfl) ?_
        rintro _ _ ⟨cg, dq, rfl, rfl, f5, f6⟩
        exact ⟨dq, rfl, f5, (show (ptr (bx cg) : Value) = ptr (bx cg) ∧ Bx dq 17 cg [.slice none 0 0, .slice none 0 0] from ⟨rfl, f6⟩)⟩
       ·intro vs W lW hN
        obtain ⟨ch, f7⟩ : ∃ X, X = W := ⟨W, rfl⟩
        subst f7
        obtain ⟨b, d, D⟩ : ∃ b d : Value, vs 9 = .tuple [.agg [b, d].toArray, vI a.2].toArray := ⟨_, _, (hN 9 (zaq rfl)).1⟩
        obtain ⟨vs, rfl⟩ := zar D
        have f8 : Ow ch 15 [] [b] a.1.Commits := (hN 9 (zaq rfl)).2.1
        have f9 : Ow ch 16 [] [d] a.1.Heads := (hN 9 (zaq rfl)).2.2
        have ci : vs 11 = .agg [b, d].toArray := (hN 11 (zaq rfl))
        obtain ⟨vs, rfl⟩ := zar ci
        obtain ⟨B, cj⟩ : ∃ B, vs 13 = ptr (bx B) := ⟨_, ((hN 13 (zaq rfl))).1⟩
        obtain ⟨vs, rfl⟩ := zar cj
        have ga : Bx ch 17 B [.slice none 0 0, .slice none 0 0] := (hN 13 (zaq rfl)).2
        refine Tr.mono (T.sta (vs := [b, d]) ga rfl rfl (zaa f8.oc (zaa f9.oc zaF)) rfl rfl) ?_
        rintro _ _ ⟨dr, rfl, gb, gc⟩
        exact ⟨dr, rfl, gb, (show (ptr (bx B)) = ptr (bx B) ∧ Bx dr 17 B [b, d] from ⟨rfl, gc⟩)⟩
       ·intro vs W lW hN
        obtain ⟨gd, gf⟩ : ∃ X, X = W := ⟨W, rfl⟩
        subst gf
        have ck : vs 12 = vI a.2 := (hN 12 (zaq rfl))
        obtain ⟨vs, rfl⟩ := zar ck
        refine Tr.mono (Run.tr (R.as (v := vI a.2) rfl)) ?_
        rintro _ _ ⟨hu, rfl⟩
        obtain rfl := hu.symm
        exact ⟨gd, rfl, Le.refl _ _, (show (vI a.2 : Value) = vI a.2 from rfl)⟩
       ·intro vs W lW hN
        obtain ⟨cl, gg⟩ : ∃ X, X = W := ⟨W, rfl⟩
        subst gg
        have cm := a5.t lW rfl
        have ds := (bp.up A).up lW rfl
        obtain ⟨gh, hl450⟩ : ∃ x, x = lW := ⟨lW, rfl⟩
        have b5 : vs 0 = .agg [i, k].toArray := (hN 0 (zaq rfl))
        obtain ⟨vs, rfl⟩ := zar b5
        have b6 : vs 1 = vS x1 := (hN 1 (zaq rfl))
        obtain ⟨vs, rfl⟩ := zar b6
        have bw : vs 2 = ptr ((bx G).add 0) := (hN 2 (zaq rfl))
        obtain ⟨vs, rfl⟩ := zar bw
        have bz : vs 3 = f := (hN 3 (zaq rfl))
        obtain ⟨vs, rfl⟩ := zar bz
        have b0 : vs 4 = vI e := (hN 4 (zaq rfl))
        obtain ⟨vs, rfl⟩ := zar b0
        have b2 : vs 5 = ptr ((slA f).add ((e).toNat * Rp.sz (Commit))) := (hN 5 (zaq rfl))
        obtain ⟨vs, rfl⟩ := zar b2
        have b4 : vs 6 = ptr (((slA f).add ((e).toNat * Rp.sz (Commit))).add 1) := (hN 6 (zaq rfl))
        obtain ⟨vs, rfl⟩ := zar b4
        have b7 : vs 7 = vS O.Who := (hN 7 (zaq rfl))
        obtain ⟨vs, rfl⟩ := zar b7
        have b8 : vs 8 = vI e := (hN 8 (zaq rfl))
        obtain ⟨vs, rfl⟩ := zar b8
        obtain ⟨b, d, D⟩ : ∃ b d : Value, vs 9 = .tuple [.agg [b, d].toArray, vI a.2].toArray := ⟨_, _, (hN 9 (zaq rfl)).1⟩
        obtain ⟨vs, rfl⟩ := zar D
        have dt : Ow cl 15 [] [b] a.1.Commits := (hN 9 (zaq rfl)).2.1
        have du : Ow cl 16 [] [d] a.1.Heads := (hN 9 (zaq rfl)).2.2
        have af : vs 10 = .tuple [.agg [b, d].toArray, vI a.2].toArray := (hN 10 (zaq rfl))
        obtain ⟨vs, rfl⟩ := zar af
        have ci : vs 11 = .agg [b, d].toArray := (hN 11 (zaq rfl))
        obtain ⟨vs, rfl⟩ := zar ci
        have ck : vs 12 = vI a.2 := (hN 12 (zaq rfl))
        obtain ⟨vs, rfl⟩ := zar ck
        obtain ⟨B, cj⟩ : ∃ B, vs 13 = ptr (bx B) := ⟨_, (hN 14 (zaq rfl)).1⟩
        obtain ⟨vs, rfl⟩ := zar cj
        have gj : Bx cl 17 B [b, d] := (hN 14 (zaq rfl)).2
        have gk : vs 15 = vI a.2 := (hN 15 (zaq rfl))
        obtain ⟨vs, rfl⟩ := zar gk
        refine ssr (mi rfl (Lw.ne rfl (nl (cn hm (fun hm => ?_) fun hm => ?_))))
        ·refine sr (la ((bq.up A).up lW rfl) (cr hm (fun _ => p67 (k0 := 18) (k1 := 19) (Repo.rd (K := [0]) x0.Commits x0.Heads (y.ul cm) (E.ul cm))) ?_))
         rintro il _ im hm dv ⟨gm, gn, rfl, dw, dx⟩
         have go := cm.n dv
         refine mi rfl (sta (ds.up dv) (zaa dw.oc (zaa dx.oc zaF)) fun io co gr => ?_)
         have gs := go.t co
         refine Ni rfl ?_
         obtain ⟨ip, gu, cp, gv⟩ := (dw.up co).dyeO 31
         have gw := gs.t cp
         obtain ⟨iq, gx, cq, gy⟩ := ((dx.up co).up cp).dyeO 32
         have gz := gw.t cq
         cases hm
         rw [← gx.trans (gu)]
         exact Cw.ret (zfa rfl ((gr.up cp).up cq) rfl (Res.mk gz ⟨gm, gn, rfl, (gv.up cq).s, gy.s⟩))
        ·refine sk (rg (Lw.r rfl (R.lda (cs := [b, d]) gj.cells rfl rfl) (sta ((aq.up A).up lW rfl) (zaa dt.oc (zaa du.oc zaF)) fun ir P g0 => nl ?_)))
         obtain ⟨it, g2, Q, g4⟩ := (dt.up P).dyeO 8
         obtain ⟨g5, g6, S, g7⟩ := ((du.up P).up Q).dyeO 9
         exact (ag) ⟨V, Y, Z, a.1.Commits, a.1.Heads, vI e, ptr (bx B), vI a.2, aa, ac, b, d, g5, g6.trans (g2), ((((A.j gh).j P).j Q).j S).w, rfl, (((((dk.up A).up lW rfl).up P).up Q).up S), (((((dl.up A).up lW rfl).up P).up Q).up S), (((ds.up P).up Q).up S), (g4.up S), g7, ((g0.up Q).up S), hm⟩
    ·refine Cw.exit ?_
     rw [ex] at hm
     refine sr (la aq (sta bp (zaa ao.oc (zaa ap.oc zaF)) fun iu ct g8 => ?_))
     have g9 := ar.t ct
     refine Ni rfl ?_
     obtain ⟨iv, ha, cu, hb⟩ := (ao.up ct).dyeO 31
     have hc := g9.t cu
     obtain ⟨iw, he, cv, hf⟩ := ((ap.up ct).up cu).dyeO 32
     have hg := hc.t cv
     cases hm
     rw [← he.trans (ha)]
     exact Cw.ret (zfa rfl ((g8.up cu).up cv) rfl (Res.mk hg ⟨i, k, rfl, (hb.up cv).s, hf.s⟩))
  ·refine rg (mi rfl (Lw.lt rfl (mb rfl (bs hm (fun ah hm => ?_) fun ah hm => ?_))))
   ·exact psk 4 ah rfl (Pb ah rfl (nl ((ag) ⟨true, c6, rfl, Le.refl _ _, rfl, hm⟩)))
   ·exact wak 4 ah (la (a7.up am) (mi rfl (ca hm (fun _ => p66 (Repo.rd (K := [0]) x0.Commits x0.Heads (y.ul a8) (E.ul a8))) fun hh hi hm hj => Lw.r rfl (R.not rfl) (Pb ah rfl (nl ((ag) ⟨(!hh), hi, rfl, hj, rfl, hm⟩))))))
theorem p14 {x0 d f x1 x2 k0 k1 r} (h : Rd W K [d, f] x0) (i : Gl 0 W K) (hm : Vm.zh8 x0 x1 x2 = some r) : Q1 14 [.agg [d, f].toArray, vS x1, vI x2] W [] fun W' v => ∃ a b, v = .tuple [.agg [a, b].toArray, vI r.2].toArray ∧ Ow W' k0 [] [a] r.1.Commits ∧ Ow W' k1 [] [b] r.1.Heads :=
 zau.adJ (J := []) (fun c => bif Nat.beq c 0 then 0 else bif Nat.beq c 31 then k0 else bif Nat.beq c 32 then k1 else 0) (c14 (h.view _) (i.view _) hm) fun _ _ ⟨a, b, e, k, x⟩ => ⟨a, b, e, k.one1.backN rfl, x.one1.backN rfl⟩
end Go.Sx
