/- Walks: each function answers as its model, printed by a program of ours. Conditions: the arguments read as they are given. -/
import Derived.Test.YtokbhelngoeblaaGreatDoorBTs
import Derived.Test.YtokbhelngoeblaaGreatDoorBM1
import Derived.Test.YtokbhelngoeblaaGreatDoorBW6
import Derived.Test.YtokbhelngoeblaaGreatDoorBW8
import Derived.Test.YtokbhelngoeblaaGreatDoorBW9
namespace Go.Sx
open Go Go.Proofs Go.Vm Rp
set_option linter.unusedVariables false
set_option linter.unusedSimpArgs false
variable {W W0 : CW} {K : List Nat}
theorem c129 {x0 e f x1 x2 x3 O x4 P r} (h0 : Rd W0 [0] [e, f] x0) (h3 : Rd W0 [0] [O] x3) (h4 : Rd W0 [0] [P] x4) (bn : Gl 0 W0 [0]) (hm : Vm.za4 x0 x1 x2 x3 x4 = some r) : Q0 129 [.agg [e, f].toArray, vS x1, vS x2, O, P] W0 fun Wf v => ∃ bp bq, v = .tuple [.agg [bp, bq].toArray, vI r.2].toArray ∧ OwS Wf [31] [] [bp] r.1.Commits ∧ OwS Wf [32] [] [bq] r.1.Heads := by
 unfold Vm.za4 at hm
 obtain ⟨fb, fc, br, D, E⟩ := Repo.split h0
 simp only [List.cons.injEq, and_true, true_and] at br
 obtain ⟨rfl, rfl⟩ := br
 refine zaI.of Tryz.func129 rfl rfl rfl rfl (sr (bo 2 rfl fun g1 W1 l1 b1 => ?_))
 have a2 := l1.o
 refine al 3 [.slice none 0 0, .slice none 0 0] fun g3 W3 Q b3 => ?_
 have S := a2.n Q
 refine Ni rfl (sr (la (b1.up Q) (ms rfl (ca hm (fun _ => p65 (Repo.rd (K := [0]) x0.Commits x0.Heads (D.ul S) (E.ul S))) fun k fh hm l10 => ?_))))
 have U := S.n l10
 have bv := (b1.up Q).up l10
 refine Ni rfl (sr (mv O rfl (la bv (mi rfl (cr hm (fun _ => p80 (Repo.rd (K := [0]) x0.Commits x0.Heads (D.ul U) (E.ul U))) ?_)))))
 rintro fi fj fm hm V ⟨_, rfl, cj⟩
 have ck := cj.sub (M := [0]) rfl
 have H := U.n V
 refine mv P rfl (cr hm (fun _ => p47 (k0 := 4) (h3.ul H) ck (h4.ul H) (bn.ul H)) ?_)
 rintro C _ cl hm Y ⟨i, rfl, cm⟩
 have co : Ow (α := List (Sh Vm.File)) cl 4 [0] [i] C.1 := cm.sub rfl
 have I := H.n Y
 have Z := (bv.up V).up Y
 have bw := ((b3.up l10).up V).up Y
 refine mv (.tuple [i, vB C.2].toArray) rfl (Lw.r rfl (R.ext (vs := [i, vB C.2]) (v := i) rfl rfl) (Lw.r rfl (R.ext (vs := [i, vB C.2]) (v := vB C.2) rfl rfl) (Gv i rfl (Nb rfl (ssr (mb rfl (Lw.r rfl (R.not rfl) (nl (cn hm (fun hm => ?_) fun hm => ?_)))))))))
 ·refine sr (la Z (cr hm (fun _ => p67 (k0 := 5) (k1 := 6) (Repo.rd (K := [0]) x0.Commits x0.Heads (D.ul I) (E.ul I))) ?_))
  rintro fn _ fo hm bz ⟨cp, cq, rfl, b0, b2⟩
  have ct := I.n bz
  refine sta (bw.up bz) (zab b0.oc (zab b2.oc za3)) fun fp aa cu => ?_
  have cv := ct.t aa
  refine Ni rfl ?_
  obtain ⟨fq, cw, ac, cx⟩ := (b0.up aa).dyeO 31
  have cy := cv.t ac
  obtain ⟨fr, cz, ae, c3⟩ := ((b2.up aa).up ac).dyeO 32
  have c4 := cy.t ae
  cases hm
  rw [← cz.trans (cw)]
  exact Cw.ret (zhr rfl ((cu.up ac).up ae) rfl (Res.mk c4 ⟨cp, cq, rfl, (cx.up ae).s, c3.s⟩))
 ·refine sk (Cw.seq ?_)
  obtain ⟨y, c5, hm⟩ := ob hm
  obtain ⟨z, c6, hm⟩ := ob hm
  obtain ⟨a, c7, hm⟩ := ob hm
  refine Cw.par [[], [], [1], [], [], [], [], [6], [1, 2, 3, 4, 5, 6, 7], [0, 1, 2, 3, 4, 5, 6, 7, 8], [0, 1, 2, 3, 4, 5, 6, 7, 8, 9], [0, 1, 2, 3, 4, 5, 6, 7, 8, 9, 10], [0, 1, 2, 3, 4, 5, 6, 7, 8, 9, 10], [], [0, 1, 2, 3, 4, 5, 6, 7, 8, 9, 10, 11, 13], [0, 1, 2, 3, 4, 5, 6, 7, 8, 9, 10, 11, 12, 13, 14]] [[], [], [1], [], [], [], [], [6], [2, 3, 4, 5, 7], [0, 8], [9], [9, 10], [9, 10], [], [9, 11, 13], [12]] [[], [], [], [], [], [], [], [], [7, 8, 9], [10, 11], [], [], [], [], [14], []] [[0], [1], [2], [3], [4], [5], [6], [7], [8], [9], [9, 10], [9, 11], [12], [13], [9, 13], [15]] [[], [], [7, 8], [], [], [], [], [9], [10, 11], [12, 13], [], [], [], [14], [14], []] [0, 1, 3, 4, 5, 6, 9, 10, 11, 12, 14, 15] [7, 8, 9, 10, 11, 14] [fun vs W => (vs 0) = .agg [e, f].toArray, fun vs W => (vs 1) = .agg [e, f].toArray, fun vs W => (vs 2) = .agg [(zaw (vs 2) 0), (zaw (vs 2) 1)].toArray ∧ Ow W 7 [] [(zaw (vs 2) 0)] y.Commits ∧ Ow W 8 [] [(zaw (vs 2) 1)] y.Heads, fun vs W => (vs 3) = vS x1, fun vs W => (vs 4) = vS x2, fun vs W => (vs 5) = i, fun vs W => (vs 6) = vI k, fun vs W => Ow W 9 [] [(vs 7)] ([k] : List Int), fun vs W => (vs 8) = .agg [(zaw (vs 8) 0), (zaw (vs 8) 1)].toArray ∧ Ow W 10 [] [(zaw (vs 8) 0)] z.Commits ∧ Ow W 11 [] [(zaw (vs 8) 1)] z.Heads, fun vs W => (vs 9) = .tuple [.agg [(zaw (zaw (vs 9) 0) 0), (zaw (zaw (vs 9) 0) 1)].toArray, vB a.2].toArray ∧ Ow W 12 [] [(zaw (zaw (vs 9) 0) 0)] a.1.Commits ∧ Ow W 13 [] [(zaw (zaw (vs 9) 0) 1)] a.1.Heads, fun vs W => (vs 10) = .tuple [.agg [(zaw (zaw (vs 9) 0) 0), (zaw (zaw (vs 9) 0) 1)].toArray, vB a.2].toArray, fun vs W => (vs 11) = .agg [(zaw (zaw (vs 9) 0) 0), (zaw (zaw (vs 9) 0) 1)].toArray, fun vs W => (vs 12) = vB a.2, fun vs W => (vs 13) = ptr (bx (pg (vs 13))) ∧ Bx W 14 (pg (vs 13)) [.slice none 0 0, .slice none 0 0], fun vs W => (vs 13) = ptr (bx (pg (vs 13))) ∧ Bx W 14 (pg (vs 13)) [(zaw (zaw (vs 9) 0) 0), (zaw (zaw (vs 9) 0) 1)], fun vs W => (vs 15) = vB a.2] [] mixed (by kernel_rfl) rfl zpA.nil ?_
  intro fs F
  have af := I.n F
  refine ⟨(zcV.cons ?_ (zcV.cons ?_ (zcV.cons ?_ (zcV.cons ?_ (zcV.cons ?_ (zcV.cons ?_ (zcV.cons ?_ (zcV.cons ?_ (zcV.cons ?_ (zcV.cons ?_ (zcV.cons ?_ (zcV.cons ?_ (zcV.cons ?_ (zcV.cons ?_ (zcV.cons ?_ (zcV.cons ?_ zcV.nil)))))))))))))))), (zg5.cons (fun vs vs' W W' _ hv l hd h => by (show (vs' 0) = .agg [e, f].toArray); rw [hv 0 (za6 rfl)]; exact h) (zg5.cons (fun vs vs' W W' _ hv l hd h => by (show (vs' 1) = .agg [e, f].toArray); rw [hv 1 (za6 rfl)]; exact h) (zg5.cons (fun vs vs' W W' _ hv l hd h => by (show (vs' 2) = .agg [(zaw (vs' 2) 0), (zaw (vs' 2) 1)].toArray ∧ Ow W' 7 [] [(zaw (vs' 2) 0)] y.Commits ∧ Ow W' 8 [] [(zaw (vs' 2) 1)] y.Heads); rw [hv 2 (za6 rfl)]; exact ⟨h.1, h.2.1.upv l (zdP hd (c := 7) rfl), h.2.2.upv l (zdP hd (c := 8) rfl)⟩) (zg5.cons (fun vs vs' W W' _ hv l hd h => by (show (vs' 3) = vS x1); rw [hv 3 (za6 rfl)]; exact h) (zg5.cons (fun vs vs' W W' _ hv l hd h => by (show (vs' 4) = vS x2); rw [hv 4 (za6 rfl)]; exact h) (zg5.cons (fun vs vs' W W' _ hv l hd h => by (show (vs' 5) = i); rw [hv 5 (za6 rfl)]; exact h) (zg5.cons (fun vs vs' W W' _ hv l hd h => by (show (vs' 6) = vI k); rw [hv 6 (za6 rfl)]; exact h) (zg5.cons (fun vs vs' W W' _ hv l hd h => by (show Ow W' 9 [] [(vs' 7)] ([k] : List Int)); rw [hv 7 (za6 rfl)]; exact h.upv l (zdP hd (c := 9) rfl)) (zg5.cons (fun vs vs' W W' _ hv l hd h => by (show (vs' 8) = .agg [(zaw (vs' 8) 0), (zaw (vs' 8) 1)].toArray ∧ Ow W' 10 [] [(zaw (vs' 8) 0)] z.Commits ∧ Ow W' 11 [] [(zaw (vs' 8) 1)] z.Heads); rw [hv 8 (za6 rfl)]; exact ⟨h.1, h.2.1.upv l (zdP hd (c := 10) rfl), h.2.2.upv l (zdP hd (c := 11) rfl)⟩) (zg5.cons (fun vs vs' W W' _ hv l hd h => by (show (vs' 9) = .tuple [.agg [(zaw (zaw (vs' 9) 0) 0), (zaw (zaw (vs' 9) 0) 1)].toArray, vB a.2].toArray ∧ Ow W' 12 [] [(zaw (zaw (vs' 9) 0) 0)] a.1.Commits ∧ Ow W' 13 [] [(zaw (zaw (vs' 9) 0) 1)] a.1.Heads); rw [hv 9 (za6 rfl)]; exact ⟨h.1, h.2.1.upv l (zdP hd (c := 12) rfl), h.2.2.upv l (zdP hd (c := 13) rfl)⟩) (zg5.cons (fun vs vs' W W' _ hv l hd h => by (show (vs' 10) = .tuple [.agg [(zaw (zaw (vs' 9) 0) 0), (zaw (zaw (vs' 9) 0) 1)].toArray, vB a.2].toArray); rw [hv 9 (za6 rfl), hv 10 (za6 rfl)]; exact h) (zg5.cons (fun vs vs' W W' _ hv l hd h => by (show (vs' 11) = .agg [(zaw (zaw (vs' 9) 0) 0), (zaw (zaw (vs' 9) 0) 1)].toArray); rw [hv 9 (za6 rfl), hv 11 (za6 rfl)]; exact h) (zg5.cons (fun vs vs' W W' _ hv l hd h => by (show (vs' 12) = vB a.2); rw [hv 12 (za6 rfl)]; exact h) (zg5.cons (fun vs vs' W W' _ hv l hd h => by (show (vs' 13) = ptr (bx (pg (vs' 13))) ∧ Bx W' 14 (pg (vs' 13)) [.slice none 0 0, .slice none 0 0]); rw [hv 13 (za6 rfl)]; exact ⟨h.1, h.2.up l (zdP hd (c := 14) rfl)⟩) (zg5.cons (fun vs vs' W W' _ hv l hd h => by (show (vs' 13) = ptr (bx (pg (vs' 13))) ∧ Bx W' 14 (pg (vs' 13)) [(zaw (zaw (vs' 9) 0) 0), (zaw (zaw (vs' 9) 0) 1)]); rw [hv 9 (za6 rfl), hv 13 (za6 rfl)]; exact ⟨h.1, h.2.up l (zdP hd (c := 14) rfl)⟩) (zg5.cons (fun vs vs' W W' _ hv l hd h => by (show (vs' 15) = vB a.2); rw [hv 15 (za6 rfl)]; exact h) zg5.nil)))))))))))))))), ?_⟩
  ·intro vs W lW hN
   obtain ⟨c8, c9⟩ : ∃ X, X = W := ⟨W, rfl⟩
   subst c9
   refine Tr.mono (Run.tr (R.lda (cs := [e, f]) ((Z.up F).up lW rfl).cells rfl rfl)) ?_
   rintro _ _ ⟨hu, rfl⟩
   obtain rfl := hu.symm
   exact ⟨c8, rfl, Le.refl _ _, (show (.agg [e, f].toArray : Value) = .agg [e, f].toArray from rfl)⟩
  ·intro vs W lW hN
   obtain ⟨da, db⟩ : ∃ X, X = W := ⟨W, rfl⟩
   subst db
   refine Tr.mono (Run.tr (R.lda (cs := [e, f]) ((Z.up F).up lW rfl).cells rfl rfl)) ?_
   rintro _ _ ⟨hu, rfl⟩
   obtain rfl := hu.symm
   exact ⟨da, rfl, Le.refl _ _, (show (.agg [e, f].toArray : Value) = .agg [e, f].toArray from rfl)⟩
  ·intro vs W lW hN
   obtain ⟨ft, dc⟩ : ∃ X, X = W := ⟨W, rfl⟩
   subst dc
   have b4 := af.t lW rfl
   have ah : vs 1 = .agg [e, f].toArray := (hN 1 (za6 rfl))
   obtain ⟨vs, rfl⟩ := za7 ah
   refine Tr.mono (T.call rfl (p67 (k0 := 7) (k1 := 8) (Repo.rd (K := [0]) x0.Commits x0.Heads (D.ul b4) (E.ul b4)) c5)) ?_
   rintro _ _ ⟨ai, rfl, dd, ⟨aj, ak, rfl, de, df⟩⟩
   exact ⟨ai, rfl, dd, (show (.agg [aj, ak].toArray : Value) = .agg [aj, ak].toArray ∧ Ow ai 7 [] [aj] y.Commits ∧ Ow ai 8 [] [ak] y.Heads from ⟨rfl, de, df⟩)⟩
  ·intro vs W lW hN
   obtain ⟨dg, dh⟩ : ∃ X, X = W := ⟨W, rfl⟩
   subst dh
   refine Tr.mono (Run.tr (R.mv (v := vS x1) rfl)) ?_
   rintro _ _ ⟨hu, rfl⟩
   obtain rfl := hu.symm
   exact ⟨dg, rfl, Le.refl _ _, (show (vS x1 : Value) = vS x1 from rfl)⟩
  ·intro vs W lW hN
   obtain ⟨di, dj⟩ : ∃ X, X = W := ⟨W, rfl⟩
   subst dj
   refine Tr.mono (Run.tr (R.mv (v := vS x2) rfl)) ?_
   rintro _ _ ⟨hu, rfl⟩
   obtain rfl := hu.symm
   exact ⟨di, rfl, Le.refl _ _, (show (vS x2 : Value) = vS x2 from rfl)⟩
  ·intro vs W lW hN
   obtain ⟨dk, dl⟩ : ∃ X, X = W := ⟨W, rfl⟩
   subst dl
   refine Tr.mono (Run.tr (R.mv (v := i) rfl)) ?_
   rintro _ _ ⟨hu, rfl⟩
   obtain rfl := hu.symm
   exact ⟨dk, rfl, Le.refl _ _, (show (i : Value) = i from rfl)⟩
  ·intro vs W lW hN
   obtain ⟨dm, dn⟩ : ∃ X, X = W := ⟨W, rfl⟩
   subst dn
   refine Tr.mono (Run.tr (R.mv (v := vI k) rfl)) ?_
   rintro _ _ ⟨hu, rfl⟩
   obtain rfl := hu.symm
   exact ⟨dm, rfl, Le.refl _ _, (show (vI k : Value) = vI k from rfl)⟩
  ·intro vs W lW hN
   obtain ⟨dp, dq⟩ : ∃ X, X = W := ⟨W, rfl⟩
   subst dq
   have am : vs 6 = vI k := (hN 6 (za6 rfl))
   obtain ⟨vs, rfl⟩ := za7 am
   refine Tr.mono (T.bsS (α := Int) (xs := [k]) 9 [] (W := dp) [vI k] (Each.cons ((rdI _)) Each.nil) rfl) ?_
   rintro dr _ ⟨b5, rfl, ds, dt⟩
   exact ⟨b5, rfl, ds, (show Ow b5 9 [] [dr] ([k] : List Int) from dt)⟩
  ·intro vs W lW hN
   obtain ⟨J, du⟩ : ∃ X, X = W := ⟨W, rfl⟩
   subst du
   obtain ⟨an, ao, dv⟩ : ∃ an ao : Value, vs 2 = .agg [an, ao].toArray := ⟨_, _, (hN 2 (za6 rfl)).1⟩
   obtain ⟨vs, rfl⟩ := za7 dv
   have dw : Ow J 7 [] [an] y.Commits := (hN 2 (za6 rfl)).2.1
   have dx : Ow J 8 [] [ao] y.Heads := (hN 2 (za6 rfl)).2.2
   have ap : vs 3 = vS x1 := (hN 3 (za6 rfl))
   obtain ⟨vs, rfl⟩ := za7 ap
   have aq : vs 4 = vS x2 := (hN 4 (za6 rfl))
   obtain ⟨vs, rfl⟩ := za7 aq
   have ar : vs 5 = i := (hN 5 (za6 rfl))
   obtain ⟨vs, rfl⟩ := za7 ar
   obtain ⟨dy, dz⟩ : ∃ v, vs 7 = v := ⟨_, rfl⟩
   obtain ⟨vs, rfl⟩ := za7 dz
   have d0 : Ow J 9 [] [dy] ([k] : List Int) := (hN 7 (za6 rfl))
   have d1 : Rd (α := List Vm.File) J [4, 0] [i] C.1 := Ow.rdSh ((co.up F).up lW rfl)
   refine Tr.mono (T.call rfl (p157 (K := [0, 4]) (k0 := 10) (k1 := 11) (c0 := 7) (c1 := 8) (c2 := 9) (x0 := (Vm.Repo.mk y.Commits y.Heads)) dw dx (d1.sub (M := [0, 4]) rfl) d0 rfl c6)) ?_
   rintro _ _ ⟨au, rfl, d2, ⟨av, aw, rfl, d3, d4⟩⟩
   exact ⟨au, rfl, d2, (show (.agg [av, aw].toArray : Value) = .agg [av, aw].toArray ∧ Ow au 10 [] [av] z.Commits ∧ Ow au 11 [] [aw] z.Heads from ⟨rfl, d3, d4⟩)⟩
  ·intro vs W lW hN
   obtain ⟨b6, d5⟩ : ∃ X, X = W := ⟨W, rfl⟩
   subst d5
   have ax := af.t lW rfl
   have ay : vs 0 = .agg [e, f].toArray := (hN 0 (za6 rfl))
   obtain ⟨vs, rfl⟩ := za7 ay
   obtain ⟨az, a0, d6⟩ : ∃ az a0 : Value, vs 8 = .agg [az, a0].toArray := ⟨_, _, (hN 8 (za6 rfl)).1⟩
   obtain ⟨vs, rfl⟩ := za7 d6
   have d7 : Ow b6 10 [] [az] z.Commits := (hN 8 (za6 rfl)).2.1
   have d8 : Ow b6 11 [] [a0] z.Heads := (hN 8 (za6 rfl)).2.2
   refine Tr.mono (T.call rfl (p156 (k0 := 12) (k1 := 13) (c0 := 10) (c1 := 11) (x1 := (Vm.Repo.mk z.Commits z.Heads)) (Repo.rd (K := [0]) x0.Commits x0.Heads (D.ul ax) (E.ul ax)) d7 d8 (bn.ul ax) rfl c7)) ?_
   rintro _ _ ⟨a1, rfl, d9, ⟨a3, a5, rfl, ea, eb⟩⟩
   exact ⟨a1, rfl, d9, (show (.tuple [.agg [a3, a5].toArray, vB a.2].toArray : Value) = .tuple [.agg [a3, a5].toArray, vB a.2].toArray ∧ Ow a1 12 [] [a3] a.1.Commits ∧ Ow a1 13 [] [a5] a.1.Heads from ⟨rfl, ea, eb⟩)⟩
  ·intro vs W lW hN
   obtain ⟨a6, ec⟩ : ∃ X, X = W := ⟨W, rfl⟩
   subst ec
   obtain ⟨b, d, B⟩ : ∃ b d : Value, vs 9 = .tuple [.agg [b, d].toArray, vB a.2].toArray := ⟨_, _, (hN 9 (za6 rfl)).1⟩
   obtain ⟨vs, rfl⟩ := za7 B
   have fu : Ow a6 12 [] [b] a.1.Commits := (hN 9 (za6 rfl)).2.1
   have fv : Ow a6 13 [] [d] a.1.Heads := (hN 9 (za6 rfl)).2.2
   refine Tr.mono (Run.tr (R.mv (v := .tuple [.agg [b, d].toArray, vB a.2].toArray) rfl)) ?_
   rintro _ _ ⟨hu, rfl⟩
   obtain rfl := hu.symm
   exact ⟨a6, rfl, Le.refl _ _, (show (.tuple [.agg [b, d].toArray, vB a.2].toArray : Value) = .tuple [.agg [b, d].toArray, vB a.2].toArray from rfl)⟩
  ·intro vs W lW hN
   obtain ⟨a7, ed⟩ : ∃ X, X = W := ⟨W, rfl⟩
   subst ed
   obtain ⟨b, d, B⟩ : ∃ b d : Value, vs 9 = .tuple [.agg [b, d].toArray, vB a.2].toArray := ⟨_, _, (hN 9 (za6 rfl)).1⟩
   obtain ⟨vs, rfl⟩ := za7 B
   have fw : Ow a7 12 [] [b] a.1.Commits := (hN 9 (za6 rfl)).2.1
   have fx : Ow a7 13 [] [d] a.1.Heads := (hN 9 (za6 rfl)).2.2
   have G : vs 10 = .tuple [.agg [b, d].toArray, vB a.2].toArray := (hN 10 (za6 rfl))
   obtain ⟨vs, rfl⟩ := za7 G
   refine Tr.mono (Run.tr (R.ext (vs := [.agg [b, d].toArray, vB a.2]) (v := .agg [b, d].toArray) rfl rfl)) ?_
   rintro _ _ ⟨hu, rfl⟩
   obtain rfl := hu.symm
   exact ⟨a7, rfl, Le.refl _ _, (show (.agg [b, d].toArray : Value) = .agg [b, d].toArray from rfl)⟩
  ·intro vs W lW hN
   obtain ⟨a8, ee⟩ : ∃ X, X = W := ⟨W, rfl⟩
   subst ee
   obtain ⟨b, d, B⟩ : ∃ b d : Value, vs 9 = .tuple [.agg [b, d].toArray, vB a.2].toArray := ⟨_, _, (hN 9 (za6 rfl)).1⟩
   obtain ⟨vs, rfl⟩ := za7 B
   have fy : Ow a8 12 [] [b] a.1.Commits := (hN 9 (za6 rfl)).2.1
   have fz : Ow a8 13 [] [d] a.1.Heads := (hN 9 (za6 rfl)).2.2
   have G : vs 10 = .tuple [.agg [b, d].toArray, vB a.2].toArray := (hN 10 (za6 rfl))
   obtain ⟨vs, rfl⟩ := za7 G
   refine Tr.mono (Run.tr (R.ext (vs := [.agg [b, d].toArray, vB a.2]) (v := vB a.2) rfl rfl)) ?_
   rintro _ _ ⟨hu, rfl⟩
   obtain rfl := hu.symm
   exact ⟨a8, rfl, Le.refl _ _, (show (vB a.2 : Value) = vB a.2 from rfl)⟩
  ·intro vs W lW hN
   obtain ⟨f0, ef⟩ : ∃ X, X = W := ⟨W, rfl⟩
   subst ef
   refine Tr.mono (T.alloc 14 (cs := [.slice none 0 0, .slice none 0 0]) rfl) ?_
   rintro _ _ ⟨a9, b7, rfl, rfl, eg, eh⟩
   exact ⟨b7, rfl, eg, (show (ptr (bx a9) : Value) = ptr (bx a9) ∧ Bx b7 14 a9 [.slice none 0 0, .slice none 0 0] from ⟨rfl, eh⟩)⟩
  ·intro vs W lW hN
   obtain ⟨ba, ei⟩ : ∃ X, X = W := ⟨W, rfl⟩
   subst ei
   obtain ⟨b, d, B⟩ : ∃ b d : Value, vs 9 = .tuple [.agg [b, d].toArray, vB a.2].toArray := ⟨_, _, (hN 9 (za6 rfl)).1⟩
   obtain ⟨vs, rfl⟩ := za7 B
   have ej : Ow ba 12 [] [b] a.1.Commits := (hN 9 (za6 rfl)).2.1
   have ek : Ow ba 13 [] [d] a.1.Heads := (hN 9 (za6 rfl)).2.2
   have bb : vs 11 = .agg [b, d].toArray := (hN 11 (za6 rfl))
   obtain ⟨vs, rfl⟩ := za7 bb
   obtain ⟨A, bc⟩ : ∃ A, vs 13 = ptr (bx A) := ⟨_, ((hN 13 (za6 rfl))).1⟩
   obtain ⟨vs, rfl⟩ := za7 bc
   have el : Bx ba 14 A [.slice none 0 0, .slice none 0 0] := (hN 13 (za6 rfl)).2
   refine Tr.mono (T.sta (vs := [b, d]) el rfl rfl (zab ej.oc (zab ek.oc za3)) rfl rfl) ?_
   rintro _ _ ⟨b8, rfl, em, en⟩
   exact ⟨b8, rfl, em, (show (ptr (bx A)) = ptr (bx A) ∧ Bx b8 14 A [b, d] from ⟨rfl, en⟩)⟩
  ·intro vs W lW hN
   obtain ⟨eo, ep⟩ : ∃ X, X = W := ⟨W, rfl⟩
   subst ep
   have be : vs 12 = vB a.2 := (hN 12 (za6 rfl))
   obtain ⟨vs, rfl⟩ := za7 be
   refine Tr.mono (Run.tr (R.as (v := vB a.2) rfl)) ?_
   rintro _ _ ⟨hu, rfl⟩
   obtain rfl := hu.symm
   exact ⟨eo, rfl, Le.refl _ _, (show (vB a.2 : Value) = vB a.2 from rfl)⟩
  ·intro vs W lW hN
   obtain ⟨bg, er⟩ : ∃ X, X = W := ⟨W, rfl⟩
   subst er
   have b9 := af.t lW rfl
   have cb := (bw.up F).up lW rfl
   obtain ⟨f1, hl251⟩ : ∃ x, x = lW := ⟨lW, rfl⟩
   have ay : vs 0 = .agg [e, f].toArray := (hN 0 (za6 rfl))
   obtain ⟨vs, rfl⟩ := za7 ay
   have ah : vs 1 = .agg [e, f].toArray := (hN 1 (za6 rfl))
   obtain ⟨vs, rfl⟩ := za7 ah
   have ap : vs 3 = vS x1 := (hN 3 (za6 rfl))
   obtain ⟨vs, rfl⟩ := za7 ap
   have aq : vs 4 = vS x2 := (hN 4 (za6 rfl))
   obtain ⟨vs, rfl⟩ := za7 aq
   have ar : vs 5 = i := (hN 5 (za6 rfl))
   obtain ⟨vs, rfl⟩ := za7 ar
   have am : vs 6 = vI k := (hN 6 (za6 rfl))
   obtain ⟨vs, rfl⟩ := za7 am
   obtain ⟨b, d, B⟩ : ∃ b d : Value, vs 9 = .tuple [.agg [b, d].toArray, vB a.2].toArray := ⟨_, _, (hN 9 (za6 rfl)).1⟩
   obtain ⟨vs, rfl⟩ := za7 B
   have L : Ow bg 12 [] [b] a.1.Commits := (hN 9 (za6 rfl)).2.1
   have N : Ow bg 13 [] [d] a.1.Heads := (hN 9 (za6 rfl)).2.2
   have G : vs 10 = .tuple [.agg [b, d].toArray, vB a.2].toArray := (hN 10 (za6 rfl))
   obtain ⟨vs, rfl⟩ := za7 G
   have bb : vs 11 = .agg [b, d].toArray := (hN 11 (za6 rfl))
   obtain ⟨vs, rfl⟩ := za7 bb
   have be : vs 12 = vB a.2 := (hN 12 (za6 rfl))
   obtain ⟨vs, rfl⟩ := za7 be
   obtain ⟨A, bc⟩ : ∃ A, vs 13 = ptr (bx A) := ⟨_, (hN 14 (za6 rfl)).1⟩
   obtain ⟨vs, rfl⟩ := za7 bc
   have cc : Bx bg 14 A [b, d] := (hN 14 (za6 rfl)).2
   have es : vs 15 = vB a.2 := (hN 15 (za6 rfl))
   obtain ⟨vs, rfl⟩ := za7 es
   refine ssr (mb rfl (Lw.r rfl (R.not rfl) (nl (cn hm (fun hm => ?_) fun hm => ?_))))
   ·refine sr (Lw.r rfl (R.lda (cs := [b, d]) cc.cells rfl rfl) (sta cb (zab L.oc (zab N.oc za3)) fun f2 bh et => ?_))
    have eu := b9.t bh
    refine Ni rfl ?_
    obtain ⟨f3, ew, bi, ex⟩ := (L.up bh).dyeO 31
    have ey := eu.t bi
    obtain ⟨f4, ez, bj, e0⟩ := ((N.up bh).up bi).dyeO 32
    have e1 := ey.t bj
    cases hm
    rw [← ez.trans (ew)]
    exact Cw.ret (zhr rfl ((et.up bi).up bj) rfl (Res.mk e1 ⟨b, d, rfl, (ex.up bj).s, e0.s⟩))
   ·refine sk (sr (Lw.r rfl (R.lda (cs := [b, d]) cc.cells rfl rfl) (sta cb (zab L.oc (zab N.oc za3)) fun f5 bk e2 => ?_)))
    have e3 := b9.t bk
    refine Ni rfl ?_
    obtain ⟨f6, e4, bl, e5⟩ := (L.up bk).dyeO 31
    have e6 := e3.t bl
    obtain ⟨f7, e7, bm, e8⟩ := ((N.up bk).up bl).dyeO 32
    have e9 := e6.t bm
    cases hm
    rw [← e7.trans (e4)]
    exact Cw.ret (zhr rfl ((e2.up bl).up bm) rfl (Res.mk e9 ⟨b, d, rfl, (e5.up bm).s, e8.s⟩))
theorem p129 {x0 d f x1 x2 x3 h x4 i k0 k1 r} (k : Rd W K [d, f] x0) (x : Rd W K [h] x3) (y : Rd W K [i] x4) (z : Gl 0 W K) (hm : Vm.za4 x0 x1 x2 x3 x4 = some r) : Q1 129 [.agg [d, f].toArray, vS x1, vS x2, h, i] W [] fun W' v => ∃ a b, v = .tuple [.agg [a, b].toArray, vI r.2].toArray ∧ Ow W' k0 [] [a] r.1.Commits ∧ Ow W' k1 [] [b] r.1.Heads :=
 zaI.adJ (J := []) (fun c => bif Nat.beq c 0 then 0 else bif Nat.beq c 31 then k0 else bif Nat.beq c 32 then k1 else 0) (c129 (k.view _) (x.view _) (y.view _) (z.view _) hm) fun _ _ ⟨a, b, e, A, B⟩ => ⟨a, b, e, A.one1.backN rfl, B.one1.backN rfl⟩
theorem c70 {x0 d e x1 x2 x3 x4 r} (h0 : Rd W0 [0] [d, e] x0) (a8 : Gl 0 W0 [0]) (hm : Vm.zel x0 x1 x2 x3 x4 = some r) : Q0 70 [.agg [d, e].toArray, vS x1, vS x2, vI x3, vB x4] W0 fun Wf v => ∃ an ao, v = .tuple [.agg [an, ao].toArray, vI r.2].toArray ∧ OwS Wf [31] [] [an] r.1.Commits ∧ OwS Wf [32] [] [ao] r.1.Heads := by
 unfold Vm.zel at hm
 obtain ⟨ct, cu, ap, a, b⟩ := Repo.split h0
 simp only [List.cons.injEq, and_true, true_and] at ap
 obtain ⟨rfl, rfl⟩ := ap
 refine zaI.of Tryz.func70 rfl rfl rfl rfl (sr (bo 2 rfl fun g1 W1 l1 b1 => ?_))
 have a2 := l1.o
 refine al 3 [.slice none 0 0, .slice none 0 0] fun g3 W3 l3 b3 => ?_
 have A := a2.n l3
 have B := b1.up l3
 refine Ni rfl (Cw.seq ?_)
 obtain ⟨K8, bh, hm⟩ := zc1 hm
 refine Cw.join 14 28 [28] (fun l w => ∃ P Q, CW.w Q = w ∧ Le [] W3 Q ∧ l = [vB P] ∧ K8 P = some r) ?_ ?_
 ·rintro _ _ σ ⟨P, Q, rfl, f, rfl, hm⟩
  rw [bh] at hm
  have C := A.n f
  refine cn hm (fun hm => ?_) fun hm => ?_
  ·refine sr (la (B.up f) (cr hm (fun _ => p67 (k0 := 4) (k1 := 5) (Repo.rd (K := [0]) x0.Commits x0.Heads (a.ul C) (b.ul C))) ?_))
   rintro cy _ cz hm au ⟨bi, bj, rfl, av, aw⟩
   have bk := C.n au
   refine sta ((b3.up f).up au) (zab av.oc (zab aw.oc za3)) fun c0 S bl => ?_
   have bm := bk.t S
   refine Ni rfl ?_
   obtain ⟨c1, bn, U, bp⟩ := (av.up S).dyeO 31
   have bq := bm.t U
   obtain ⟨c2, br, V, bu⟩ := ((aw.up S).up U).dyeO 32
   have bv := bq.t V
   cases hm
   rw [← br.trans (bn)]
   exact Cw.ret (zhr rfl ((bl.up U).up V) rfl (Res.mk bv ⟨bi, bj, rfl, (bp.up V).s, bu.s⟩))
  ·refine sk (Cw.seq (Cw.draw [] [(0, 1), (1, 1), (2, 0), (5, 1), (6, 0), (3, 2), (4, 2), (7, 2), (8, 0), (9, 0)] mixed (by kernel_rfl) fun c3 W => ?_))
   have X := C.n W
   have D := (B.up f).up W
   refine Mw.q rfl rfl (fun _ c => R.lda (cs := [d, e]) (D.clcs rfl c) rfl rfl) (Mw.q rfl rfl (fun _ c => R.lda (cs := [d, e]) (D.clcs rfl c) rfl rfl) (Di rfl (Mw.q rfl rfl (fun _ c => R.lda (cs := [d, e]) (D.clcs rfl c) rfl rfl) (Di rfl ?_))))
   obtain ⟨c4, bw, hm⟩ := ob hm
   refine Mw.t rfl rfl (T.call rfl (p128  (Repo.rd (K := [0]) x0.Commits x0.Heads (a.ul X) (b.ul X)) bw)) ?_
   rintro _ _ ⟨c5, rfl, E, rfl⟩
   have Y := X.n E
   refine m0 E fun bz => ?_
   obtain ⟨ax, b0, hm⟩ := ob hm
   refine Mw.t rfl rfl (T.call rfl (p80  (Repo.rd (K := [0]) x0.Commits x0.Heads (a.ul Y) (b.ul Y)) b0)) ?_
   rintro h _ ⟨c6, rfl, F, ⟨_, rfl, b2⟩⟩
   have ay := b2.sub (M := [0]) rfl
   have Z := Y.n F
   refine mc bz F fun b4 => ?_
   obtain ⟨az, b6, hm⟩ := ob hm
   refine Mw.t rfl rfl (T.call rfl (p80  (Repo.rd (K := [0]) x0.Commits x0.Heads (a.ul Z) (b.ul Z)) b6)) ?_
   rintro i _ ⟨aa, rfl, G, ⟨_, rfl, b7⟩⟩
   have a0 := b7.sub (M := [0]) rfl
   have ac := G.o
   refine mc b4 G fun c7 => Hv h rfl (Hv i rfl (Mw.nil ?_))
   obtain ⟨b8, b9, hm⟩ := zc1 hm
   refine Cw.join 39 41 [12, 13] (fun l w => ∃ ae af H I k, CW.w k = w ∧ Le [] aa k ∧ l = [H, I] ∧ Rd k [0] [H] ae ∧ Rd k [0] [I] af ∧ b8 ae af = some r) ?_ ?_
   ·rintro _ _ σ ⟨ae, af, H, I, k, rfl, ah, rfl, r68, r71, hm⟩
    rw [b9] at hm
    have J := (Z.trans ac).n ah
    refine sr (la ((((D.up E).up F).up G).up ah) (ms rfl (ms rfl (mv H rfl (mv I rfl (cr hm (fun _ => p129 (k0 := 6) (k1 := 7) (Repo.rd (K := [0]) x0.Commits x0.Heads (a.ul J) (b.ul J)) r68 r71 (a8.ul J)) ?_))))))
    rintro ai _ c8 hm a1 ⟨L, N, rfl, a3, a5⟩
    have cb := J.n a1
    refine Lw.r rfl (R.ext (vs := [.agg [L, N].toArray, vI ai.2]) (v := .agg [L, N].toArray) rfl rfl) (Lw.r rfl (R.ext (vs := [.agg [L, N].toArray, vI ai.2]) (v := vI ai.2) rfl rfl) (sta (((((((b3.up f).up W).up E).up F).up G).up ah).up a1) (zab a3.oc (zab a5.oc za3)) fun c9 aj cc => ?_))
    have cd := cb.t aj
    refine Ni rfl ?_
    obtain ⟨da, ce, ak, cf⟩ := (a3.up aj).dyeO 31
    have cg := cd.t ak
    obtain ⟨db, ch, am, ci⟩ := ((a5.up aj).up ak).dyeO 32
    have cj := cg.t am
    cases hm
    rw [← ch.trans (ce)]
    exact Cw.ret (zhr rfl ((cc.up ak).up am) rfl (Res.mk cj ⟨L, N, rfl, (cf.up am).s, ci.s⟩))
   ·refine sr (mb rfl (nl (cn hm (fun hm => ?_) fun hm => ?_)))
    ·exact rg (mv i rfl (mv h rfl (Gv i rfl (Nv h rfl ((ag) ⟨az, ax, i, h, aa, rfl, Le.refl _ _, rfl, a0, (ay.ul ac), hm⟩)))))
    ·exact sk ((ag) ⟨ax, az, h, i, aa, rfl, Le.refl _ _, rfl, (ay.ul ac), a0, hm⟩)
 ·refine rg (la B (ms rfl (ca hm (fun _ => p65 (Repo.rd (K := [0]) x0.Commits x0.Heads (a.ul A) (b.ul A))) fun dc ck hm x => ?_)))
  have cl := A.n x
  refine Lw.lt rfl (mb rfl (bs hm (fun y hm => ?_) fun y hm => ?_))
  ·exact psk 3 y rfl (Pb y rfl (mb rfl (psk 4 rfl rfl (Pb rfl rfl (nl ((ag) ⟨true, ck, rfl, x, rfl, hm⟩))))))
  ·refine wak 3 y (ms rfl (ca hm (fun _ => p84) fun dd cm hm O => ?_))
   have a6 := cl.n O
   refine Lw.r rfl (R.not rfl) (Pb y rfl (mb rfl (bs hm (fun z hm => ?_) fun z hm => ?_)))
   ·exact psk 4 z rfl (Pb z rfl (nl ((ag) ⟨true, cm, rfl, (x.j O).w, rfl, hm⟩)))
   ·exact wak 4 z (la ((B.up x).up O) (mi rfl (ca hm (fun _ => p66 (Repo.rd (K := [0]) x0.Commits x0.Heads (a.ul a6) (b.ul a6))) fun co cp hm cq => Lw.r rfl (R.not rfl) (Pb z rfl (nl ((ag) ⟨(!co), cp, rfl, ((x.j O).j cq).w, rfl, hm⟩))))))
theorem p70 {x0 d f x1 x2 x3 x4 k0 k1 r} (h : Rd W K [d, f] x0) (i : Gl 0 W K) (hm : Vm.zel x0 x1 x2 x3 x4 = some r) : Q1 70 [.agg [d, f].toArray, vS x1, vS x2, vI x3, vB x4] W [] fun W' v => ∃ a b, v = .tuple [.agg [a, b].toArray, vI r.2].toArray ∧ Ow W' k0 [] [a] r.1.Commits ∧ Ow W' k1 [] [b] r.1.Heads :=
 zaI.adJ (J := []) (fun c => bif Nat.beq c 0 then 0 else bif Nat.beq c 31 then k0 else bif Nat.beq c 32 then k1 else 0) (c70 (h.view _) (i.view _) hm) fun _ _ ⟨a, b, e, k, x⟩ => ⟨a, b, e, k.one1.backN rfl, x.one1.backN rfl⟩
theorem c49 {x0 b x1 e r} (d : Rd W0 [0] [b] x0) (f : Rd W0 [0] [e] x1) (hm : Vm.zgz x0 x1 = some r) : Q0 49 [b, e] W0 fun Wf v => v = vB r := by
 unfold Vm.zgz at hm
 refine zaI.of Tryz.func49 rfl rfl rfl rfl (sr (Nb rfl (ssr (mv b rfl (Lw.ln x0 d rfl (mv e rfl (Lw.ln x1 f rfl (Lw.ne rfl (nl (cn hm (fun hm => ?_) fun hm => ?_))))))))))
 ·exact sr (Nb rfl (.ret (rt hm (Le.refl _ _))))
 ·refine sk (ssr (Ni rfl (Cw.block ?_)))
  obtain ⟨B, C, hm⟩ := zc1 hm
  refine Cw.loop 11 25 [4, 5] (fun m l w => ∃ h i k, CW.w k = w ∧ Le [] W0 k ∧ l = [vB h, vI i] ∧ Vm.zdz x0 x1 B m h i = some r) _ ⟨false, 0, W0, rfl, Le.refl _ _, rfl, hm⟩ ?_
  rintro (_ | E) _ _ σ ⟨h, i, k, rfl, A, rfl, hm⟩
  ·cases hm
  unfold Vm.zdz at hm
  have x := A.o
  refine ssr (mi rfl (mv b rfl (Lw.ln x0 (d.ul x) rfl (Lw.lt rfl (nl (cn hm (fun hm => ?_) fun hm => ?_))))))
  ·refine sk (Cw.seq (Cw.block (Cw.seq (Cw.draw [] [(0, 0), (1, 0), (2, 0), (3, 1), (4, 0), (5, 0), (6, 0), (7, 1), (8, 0)] mixed (by kernel_rfl) fun D l10 => ?_))))
   have a := x.n l10
   refine Dv b rfl (Di rfl ?_)
   obtain ⟨F, y, hm⟩ := ob hm
   refine Mw.p rfl rfl (fun _ => R.ix (α := Int) (d.ul a) y rfl rfl rfl) (Mw.q rfl rfl (fun _ c => R.ld rfl rfl (zaE ((d.ul a).at_ y).1 rfl ((d.ul a).at_ y).int c)) (Dv e rfl (Di rfl ?_)))
   obtain ⟨G, z, hm⟩ := ob hm
   refine Mw.p rfl rfl (fun _ => R.ix (α := Int) (f.ul a) z rfl rfl rfl) (Mw.q rfl rfl (fun _ c => R.ld rfl rfl (zaE ((f.ul a).at_ z).1 rfl ((f.ul a).at_ z).int c)) (Mw.p rfl rfl (fun _ => R.ne rfl rfl) (Mw.nil (cn hm (fun hm => ?_) fun hm => ?_))))
   ·exact sr (Nb rfl (.ret (rt hm a)))
   ·exact sk (rg (mi rfl (Lw.add rfl (Ni rfl ((agm) ⟨h, w64 (i + 1), D, rfl, (A.j l10).w, rfl, hm⟩)))))
  ·refine Cw.exit ?_
   rw [C] at hm
   exact sr (Nb rfl (.ret (rt hm x)))
theorem p49 {x0 a x1 b r} (d : Rd W K [a] x0) (f : Rd W K [b] x1) (hm : Vm.zgz x0 x1 = some r) : Q1 49 [a, b] W [] fun W' v => v = vB r :=
 (c49 (d.view _) (f.view _) hm).ad (fk 0) fun _ _ e => e
theorem c114 {x0 x y x1 z A r} (G : Rd W0 [0] [x, vS x0.Who, y] x0) (H : Rd W0 [0] [z, vS x1.Who, A] x1) (hm : Vm.zfg x0 x1 = some r) : Q0 114 [.agg [x, vS x0.Who, y].toArray, .agg [z, vS x1.Who, A].toArray] W0 fun Wf v => v = vB r := by
 unfold Vm.zfg at hm
 obtain ⟨X, Y, B, I, J⟩ := Commit.split G
 simp only [List.cons.injEq, and_true, true_and] at B
 obtain ⟨rfl, rfl⟩ := B
 obtain ⟨Z, aa, C, K, L⟩ := Commit.split H
 simp only [List.cons.injEq, and_true, true_and] at C
 obtain ⟨rfl, rfl⟩ := C
 refine zaI.of Tryz.func114 rfl rfl rfl rfl (sr (bo 2 rfl fun g1 W1 M N => ?_))
 have O := M.o
 refine bo 3 rfl fun g3 D E f => ?_
 have e := O.n E
 have h := N.up E
 refine Nb rfl ?_
 obtain ⟨P, Q, hm⟩ := zc1 hm
 refine Cw.join 5 23 [4] (fun l w => ∃ i k, CW.w k = w ∧ Le [] D k ∧ l = [vB i] ∧ P i = some r) ?_ ?_
 ·rintro _ _ σ ⟨i, k, rfl, R, rfl, hm⟩
  rw [Q] at hm
  have S := e.n R
  exact .ret (rt hm S)
 ·refine rg (fl h rfl (fl f rfl (Lw.seq rfl (mb rfl (bs hm (fun a hm => ?_) fun a hm => ?_)))))
  ·refine wak 5 a (fl h rfl (fl f rfl (ca hm (fun _ => p49 (I.ul e) (K.ul e)) fun ah T hm b => ?_)))
   have F := e.n b
   refine Pb a rfl (mb rfl (bs hm (fun d hm => ?_) fun d hm => ?_))
   ·exact wak 5 d (fl (h.up b) rfl (fl (f.up b) rfl (ca hm (fun _ => p21 (J.ul F) (L.ul F)) fun U V hm W => Pb d rfl (Nb rfl ((ag) ⟨U, V, rfl, (b.j W).w, rfl, hm⟩)))))
   ·exact psk 5 d rfl (Pb d rfl (Nb rfl ((ag) ⟨false, T, rfl, b, rfl, hm⟩)))
  ·exact psk 5 a rfl (Pb a rfl (mb rfl (psk 5 rfl rfl (Pb rfl rfl (Nb rfl ((ag) ⟨false, D, rfl, Le.refl _ _, rfl, hm⟩))))))
theorem p114 {x0 a b x1 d f r} (h : Rd W K [a, vS x0.Who, b] x0) (i : Rd W K [d, vS x1.Who, f] x1) (hm : Vm.zfg x0 x1 = some r) : Q1 114 [.agg [a, vS x0.Who, b].toArray, .agg [d, vS x1.Who, f].toArray] W [] fun W' v => v = vB r :=
 (c114 (h.view _) (i.view _) hm).ad (fk 0) fun _ _ e => e
theorem c45 {x0 ac ae x1 af ah r} (h0 : Rd W0 [0] [ac, ae] x0) (h1 : Rd W0 [0] [af, ah] x1) (hm : Vm.zew x0 x1 = some r) : Q0 45 [.agg [ac, ae].toArray, .agg [af, ah].toArray] W0 fun Wf v => v = vB r := by
 unfold Vm.zew at hm
 obtain ⟨a8, ba, ai, F, b⟩ := Repo.split h0
 simp only [List.cons.injEq, and_true, true_and] at ai
 obtain ⟨rfl, rfl⟩ := ai
 obtain ⟨bb, bc, aj, ak, x⟩ := Repo.split h1
 simp only [List.cons.injEq, and_true, true_and] at aj
 obtain ⟨rfl, rfl⟩ := aj
 refine zaI.of Tryz.func45 rfl rfl rfl rfl (sr (bo 2 rfl fun g1 W1 l1 b1 => ?_))
 have a2 := l1.o
 refine bo 3 rfl fun g3 G l3 H => ?_
 have d := a2.n l3
 have I := b1.up l3
 refine Nb rfl (Cw.seq ?_)
 obtain ⟨K8, ax, hm⟩ := zc1 hm
 refine Cw.join 7 22 [22] (fun l w => ∃ J e, CW.w e = w ∧ Le [] G e ∧ l = [vB J] ∧ K8 J = some r) ?_ ?_
 ·rintro _ _ σ ⟨J, e, rfl, L, rfl, hm⟩
  rw [ax] at hm
  have a9 := d.n L
  refine cn hm (fun hm => ?_) fun hm => ?_
  ·exact sr (Nb rfl (.ret (rt hm a9)))
  ·refine sk (ssr (Ni rfl (Cw.block ?_)))
   obtain ⟨ay, az, hm⟩ := zc1 hm
   refine Cw.loop 23 41 [4, 5] (fun m l w => ∃ f y h, CW.w h = w ∧ Le [] e h ∧ l = [vB f, vI y] ∧ Vm.zdB x0 x1 ay m f y = some r) _ ⟨false, 0, e, rfl, Le.refl _ _, rfl, hm⟩ ?_
   rintro (_ | bi) _ _ σ ⟨f, y, h, rfl, z, rfl, hm⟩
   ·cases hm
   unfold Vm.zdB at hm
   have M := a9.n z
   have A := (I.up L).up z
   have ao := (H.up L).up z
   refine ssr (mi rfl (fl A rfl (Lw.ln x0.Commits (F.ul M) rfl (Lw.lt rfl (nl (cn hm (fun hm => ?_) fun hm => ?_))))))
   ·refine sk (Cw.seq (Cw.block (Cw.seq (Cw.draw [] [(0, 0), (1, 1), (2, 0), (3, 0), (4, 1), (5, 0), (6, 1), (7, 0), (8, 0), (9, 1), (10, 2), (11, 0)] mixed (by kernel_rfl) fun bj B => ?_))))
    have N := M.n B
    refine Dfl (A.up B) rfl rfl rfl (Di rfl ?_)
    obtain ⟨O, P, hm⟩ := ob hm
    have Q := F.ul N
    refine Mw.p rfl rfl (fun _ => R.ix (α := Commit) Q P rfl rfl rfl) ?_
    obtain ⟨x30, c31, _, r32⟩ := (Q.at_ P).cells
    obtain ⟨bk, bl, rfl, r34, r36⟩ := Commit.split r32
    refine Mw.q rfl rfl (fun _ c => R.lda (zmc (Q.at_ P).1 rfl c31 c) rfl rfl) (Dfl (ao.up B) rfl rfl rfl (Di rfl ?_))
    obtain ⟨S, U, hm⟩ := ob hm
    have V := ak.ul N
    refine Mw.p rfl rfl (fun _ => R.ix (α := Commit) V U rfl rfl rfl) ?_
    obtain ⟨x40, c41, _, r42⟩ := (V.at_ U).cells
    obtain ⟨bm, bn, rfl, r44, r46⟩ := Commit.split r42
    refine Mw.q rfl rfl (fun _ c => R.lda (zmc (V.at_ U).1 rfl c41 c) rfl rfl) ?_
    obtain ⟨bp, a0, hm⟩ := ob hm
    refine Mw.t rfl rfl (T.call rfl (p114  (Commit.rd (K := [0]) O.Parents O.Who O.Tree r34 r36) (Commit.rd (K := [0]) S.Parents S.Who S.Tree r44 r46) a0)) ?_
    rintro _ _ ⟨a1, rfl, W, rfl⟩
    have a3 := N.n W
    refine m0 W fun bq => Mw.p rfl rfl (fun _ => R.not rfl) (Mw.nil (cn hm (fun hm => ?_) fun hm => ?_))
    ·exact sr (Nb rfl (.ret (rt hm a3)))
    ·exact sk (rg (mi rfl (Lw.add rfl (Ni rfl ((agm) ⟨f, w64 (y + 1), a1, rfl, ((z.j B).j W).w, rfl, hm⟩)))))
   ·refine Cw.exit ?_
    rw [az] at hm
    refine ssr (Ni rfl (Cw.block ?_))
    obtain ⟨a5, a6, hm⟩ := zc1 hm
    refine Cw.loop 42 59 [4, 6] (fun m l w => ∃ C D X, CW.w X = w ∧ Le [] h X ∧ l = [vB C, vI D] ∧ Vm.zdA x0 x1 a5 m C D = some r) _ ⟨f, 0, h, rfl, Le.refl _ _, rfl, hm⟩ ?_
    rintro (_ | br) _ _ σ ⟨C, D, X, rfl, i, rfl, hm⟩
    ·cases hm
    unfold Vm.zdA at hm
    have Y := M.n i
    refine ssr (mi rfl (fl (A.up i) rfl (Lw.ln x0.Heads (b.ul Y) rfl (Lw.lt rfl (nl (cn hm (fun hm => ?_) fun hm => ?_))))))
    ·refine sk (Cw.seq (Cw.block (Cw.seq (Cw.draw [] [(0, 0), (1, 1), (2, 0), (3, 0), (4, 1), (5, 0), (6, 1), (7, 0), (8, 0), (9, 1), (10, 0)] mixed (by kernel_rfl) fun a7 E => ?_))))
     have a := Y.n E
     refine Dfl ((A.up i).up E) rfl rfl rfl (Di rfl ?_)
     obtain ⟨bu, Z, hm⟩ := ob hm
     refine Mw.p rfl rfl (fun _ => R.ix (α := Head) (b.ul a) Z rfl rfl rfl) ?_
     obtain ⟨x71, c72, _, r73⟩ := ((b.ul a).at_ Z).cells
     obtain rfl := Head.split r73
     refine Mw.q rfl rfl (fun _ c => R.lda (zmc ((b.ul a).at_ Z).1 rfl c72 c) rfl rfl) (Dfl ((ao.up i).up E) rfl rfl rfl (Di rfl ?_))
     obtain ⟨bv, aa, hm⟩ := ob hm
     refine Mw.p rfl rfl (fun _ => R.ix (α := Head) (x.ul a) aa rfl rfl rfl) ?_
     obtain ⟨x77, c78, _, r79⟩ := ((x.ul a).at_ aa).cells
     obtain rfl := Head.split r79
     refine Mw.q rfl rfl (fun _ c => R.lda (zmc ((x.ul a).at_ aa).1 rfl c78 c) rfl rfl) (Mw.p rfl rfl (fun _ => R.hne rfl rfl) (Mw.nil (cn hm (fun hm => ?_) fun hm => ?_)))
     ·exact sr (Nb rfl (.ret (rt hm a)))
     ·exact sk (rg (mi rfl (Lw.add rfl (Ni rfl ((agm) ⟨C, w64 (D + 1), a7, rfl, (i.j E).w, rfl, hm⟩)))))
    ·refine Cw.exit ?_
     rw [a6] at hm
     exact sr (Nb rfl (.ret (rt hm Y)))
 ·refine rg (fl I rfl (Lw.ln x0.Commits (F.ul d) rfl (fl H rfl (Lw.ln x1.Commits (ak.ul d) rfl (Lw.ne rfl (mb rfl (bs hm (fun k hm => ?_) fun k hm => ?_)))))))
  ·exact psk 7 k rfl (Pb k rfl (nl ((ag) ⟨true, G, rfl, Le.refl _ _, rfl, hm⟩)))
  ·exact wak 7 k (fl I rfl (Lw.ln x0.Heads (b.ul d) rfl (fl H rfl (Lw.ln x1.Heads (x.ul d) rfl (Lw.ne rfl (Pb k rfl (nl ((ag) ⟨(((x0.Heads.length : Int) : Int) != ((x1.Heads.length : Int) : Int)), G, rfl, Le.refl _ _, rfl, hm⟩))))))))
theorem p45 {x0 a b x1 d f r} (h : Rd W K [a, b] x0) (i : Rd W K [d, f] x1) (hm : Vm.zew x0 x1 = some r) : Q1 45 [.agg [a, b].toArray, .agg [d, f].toArray] W [] fun W' v => v = vB r :=
 (c45 (h.view _) (i.view _) hm).ad (fk 0) fun _ _ e => e
theorem c46 {x0 d e x1 r} (y : Rd W0 [0] [d, e] x0) (z : Gl 0 W0 [0]) (hm : Vm.zex x0 x1 = some r) : Q0 46 [.agg [d, e].toArray, vS x1] W0 fun Wf v => v = vI r := by
 unfold Vm.zex at hm
 obtain ⟨D, E, f, h, i⟩ := Repo.split y
 simp only [List.cons.injEq, and_true, true_and] at f
 obtain ⟨rfl, rfl⟩ := f
 refine zaI.of Tryz.func46 rfl rfl rfl rfl (sr (bo 2 rfl fun F G A k => ?_))
 have a := A.o
 refine Ni rfl (ssr (la k (ca hm (fun _ => p22 (Repo.rd (K := [0]) x0.Commits x0.Heads (h.ul a) (i.ul a)) (z.ul a)) fun H I hm x => ?_)))
 have b := a.n x
 refine Lw.r rfl (R.not rfl) (nl (cn hm (fun hm => ?_) fun hm => ?_))
 ·exact sr (Ni rfl (.ret (rt hm b)))
 ·refine sk (sr (la (k.up x) (ms rfl (ca hm (fun _ => p65 (Repo.rd (K := [0]) x0.Commits x0.Heads (h.ul b) (i.ul b))) fun J L hm B => ?_))))
  have C := b.n B
  exact Ni rfl (.ret (rt hm C))
theorem p46 {x0 a b x1 r} (d : Rd W K [a, b] x0) (f : Gl 0 W K) (hm : Vm.zex x0 x1 = some r) : Q1 46 [.agg [a, b].toArray, vS x1] W [] fun W' v => v = vI r :=
 (c46 (d.view _) (f.view _) hm).ad (fk 0) fun _ _ e => e
end Go.Sx
