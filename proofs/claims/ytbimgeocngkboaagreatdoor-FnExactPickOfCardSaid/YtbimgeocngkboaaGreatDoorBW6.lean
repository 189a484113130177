/- Walks: each function answers as its model, printed by a program of ours. Conditions: the arguments read as they are given. -/
import Derived.Test.YtbimgeocngkboaaGreatDoorBTs
import Derived.Test.YtbimgeocngkboaaGreatDoorBM0
import Derived.Test.YtbimgeocngkboaaGreatDoorBW3
import Derived.Test.YtbimgeocngkboaaGreatDoorBW4
import Derived.Test.YtbimgeocngkboaaGreatDoorBW5
namespace Go.Sx
open Go Go.Proofs Go.Vm Rp
set_option linter.unusedVariables false
set_option linter.unusedSimpArgs false
variable {W W0 : CW} {K : List Nat}
theorem c72 {x0 e f x1 x2 x3 O x4 P r} (h0 : Rd W0 [0] [e, f] x0) (h3 : Rd W0 [0] [O] x3) (h4 : Rd W0 [0] [P] x4) (bn : Gl 0 W0 [0]) (hm : Vm.impl_Repo_apply x0 x1 x2 x3 x4 = some r) : Q0 72 [.agg [e, f].toArray, vS x1, vS x2, O, P] W0 fun Wf v => ∃ bp bq, v = .tuple [.agg [bp, bq].toArray, vI r.2].toArray ∧ OwS Wf [31] [] [bp] r.1.Commits ∧ OwS Wf [32] [] [bq] r.1.Heads := by
 unfold Vm.impl_Repo_apply at hm
 obtain ⟨fb, fc, br, D, E⟩ := Repo.split h0
 simp only [List.cons.injEq, and_true, true_and] at br
 obtain ⟨rfl, rfl⟩ := br
 refine CallR.of Tryz.func72 rfl rfl rfl rfl (sr (bo 2 rfl fun g1 W1 l1 b1 => ?_))
 have a2 := l1.o
 refine al 3 [.slice none 0 0, .slice none 0 0] fun g3 W3 Q b3 => ?_
 have S := a2.n Q
 refine Ni rfl (sr (la (b1.up Q) (ms rfl (ca hm (fun _ => p54 (Repo.rd (K := [0]) x0.Commits x0.Heads (D.ul S) (E.ul S))) fun k fh hm l10 => ?_))))
 have U := S.n l10
 have bv := (b1.up Q).up l10
 refine Ni rfl (sr (mv O rfl (la bv (mi rfl (cr hm (fun _ => p61 (Repo.rd (K := [0]) x0.Commits x0.Heads (D.ul U) (E.ul U))) ?_)))))
 rintro fi fj fm hm V ⟨_, rfl, cj⟩
 have ck := cj.sub (M := [0]) rfl
 have H := U.n V
 refine mv P rfl (cr hm (fun _ => p59 (k0 := 4) (h3.ul H) ck (h4.ul H) (bn.ul H)) ?_)
 rintro C _ cl hm Y ⟨i, rfl, cm⟩
 have co : Ow (α := List (Sh Vm.File)) cl 4 [0] [i] C.1 := cm.sub rfl
 have I := H.n Y
 have Z := (bv.up V).up Y
 have bw := ((b3.up l10).up V).up Y
 refine mv (.tuple [i, vB C.2].toArray) rfl (Lw.r rfl (R.ext (vs := [i, vB C.2]) (v := i) rfl rfl) (Lw.r rfl (R.ext (vs := [i, vB C.2]) (v := vB C.2) rfl rfl) (Gv i rfl (Nb rfl (ssr (mb rfl (Lw.r rfl (R.not rfl) (nl (cn hm (fun hm => ?_) fun hm => ?_)))))))))
 ·refine sr (la Z (cr hm (fun _ => p56 (k0 := 5) (k1 := 6) (Repo.rd (K := [0]) x0.Commits x0.Heads (D.ul I) (E.ul I))) ?_))
  rintro fn _ fo hm bz ⟨cp, cq, rfl, b0, b2⟩
  have ct := I.n bz
  refine sta (bw.up bz) (oc_cons b0.oc (oc_cons b2.oc oc_nil)) fun fp aa cu => ?_
  have cv := ct.t aa
  refine Ni rfl ?_
  obtain ⟨fq, cw, ac, cx⟩ := (b0.up aa).dyeO 31
  have cy := cv.t ac
  obtain ⟨fr, cz, ae, c3⟩ := ((b2.up aa).up ac).dyeO 32
  have c4 := cy.t ae
  cases hm
  rw [← cz.trans (cw)]
  exact Cw.ret (retA2 rfl ((cu.up ac).up ae) rfl (Res.mk c4 ⟨cp, cq, rfl, (cx.up ae).s, c3.s⟩))
 ·refine sk (Cw.seq ?_)
  obtain ⟨y, c5, hm⟩ := ob hm
  obtain ⟨z, c6, hm⟩ := ob hm
  obtain ⟨a, c7, hm⟩ := ob hm
  refine Cw.par [[], [], [1], [], [], [], [], [6], [1, 2, 3, 4, 5, 6, 7], [0, 1, 2, 3, 4, 5, 6, 7, 8], [0, 1, 2, 3, 4, 5, 6, 7, 8, 9], [0, 1, 2, 3, 4, 5, 6, 7, 8, 9, 10], [0, 1, 2, 3, 4, 5, 6, 7, 8, 9, 10], [], [0, 1, 2, 3, 4, 5, 6, 7, 8, 9, 10, 11, 13], [0, 1, 2, 3, 4, 5, 6, 7, 8, 9, 10, 11, 12, 13, 14]] [[], [], [1], [], [], [], [], [6], [2, 3, 4, 5, 7], [0, 8], [9], [9, 10], [9, 10], [], [9, 11, 13], [12]] [[], [], [], [], [], [], [], [], [7, 8, 9], [10, 11], [], [], [], [], [14], []] [[0], [1], [2], [3], [4], [5], [6], [7], [8], [9], [9, 10], [9, 11], [12], [13], [9, 13], [15]] [[], [], [7, 8], [], [], [], [], [9], [10, 11], [12, 13], [], [], [], [14], [14], []] [0, 1, 3, 4, 5, 6, 9, 10, 11, 12, 14, 15] [7, 8, 9, 10, 11, 14] [fun vs W => (vs 0) = .agg [e, f].toArray, fun vs W => (vs 1) = .agg [e, f].toArray, fun vs W => (vs 2) = .agg [(cellOf (vs 2) 0), (cellOf (vs 2) 1)].toArray ∧ Ow W 7 [] [(cellOf (vs 2) 0)] y.Commits ∧ Ow W 8 [] [(cellOf (vs 2) 1)] y.Heads, fun vs W => (vs 3) = vS x1, fun vs W => (vs 4) = vS x2, fun vs W => (vs 5) = i, fun vs W => (vs 6) = vI k, fun vs W => Ow W 9 [] [(vs 7)] ([k] : List Int), fun vs W => (vs 8) = .agg [(cellOf (vs 8) 0), (cellOf (vs 8) 1)].toArray ∧ Ow W 10 [] [(cellOf (vs 8) 0)] z.Commits ∧ Ow W 11 [] [(cellOf (vs 8) 1)] z.Heads, fun vs W => (vs 9) = .tuple [.agg [(cellOf (cellOf (vs 9) 0) 0), (cellOf (cellOf (vs 9) 0) 1)].toArray, vB a.2].toArray ∧ Ow W 12 [] [(cellOf (cellOf (vs 9) 0) 0)] a.1.Commits ∧ Ow W 13 [] [(cellOf (cellOf (vs 9) 0) 1)] a.1.Heads, fun vs W => (vs 10) = .tuple [.agg [(cellOf (cellOf (vs 9) 0) 0), (cellOf (cellOf (vs 9) 0) 1)].toArray, vB a.2].toArray, fun vs W => (vs 11) = .agg [(cellOf (cellOf (vs 9) 0) 0), (cellOf (cellOf (vs 9) 0) 1)].toArray, fun vs W => (vs 12) = vB a.2, fun vs W => (vs 13) = ptr (bx (pg (vs 13))) ∧ Bx W 14 (pg (vs 13)) [.slice none 0 0, .slice none 0 0], fun vs W => (vs 13) = ptr (bx (pg (vs 13))) ∧ Bx W 14 (pg (vs 13)) [(cellOf (cellOf (vs 9) 0) 0), (cellOf (cellOf (vs 9) 0) 1)], fun vs W => (vs 15) = vB a.2] [] mixed (by kernel_rfl) rfl AllF.nil ?_
  intro fs F
  have af := I.n F
  refine ⟨(Steps.cons ?_ (Steps.cons ?_ (Steps.cons ?_ (Steps.cons ?_ (Steps.cons ?_ (Steps.cons ?_ (Steps.cons ?_ (Steps.cons ?_ (Steps.cons ?_ (Steps.cons ?_ (Steps.cons ?_ (Steps.cons ?_ (Steps.cons ?_ (Steps.cons ?_ (Steps.cons ?_ (Steps.cons ?_ Steps.nil)))))))))))))))), (Sups.cons (fun vs vs' W W' _ hv l hd h => by (show (vs' 0) = .agg [e, f].toArray); rw [hv 0 (anyb rfl)]; exact h) (Sups.cons (fun vs vs' W W' _ hv l hd h => by (show (vs' 1) = .agg [e, f].toArray); rw [hv 1 (anyb rfl)]; exact h) (Sups.cons (fun vs vs' W W' _ hv l hd h => by (show (vs' 2) = .agg [(cellOf (vs' 2) 0), (cellOf (vs' 2) 1)].toArray ∧ Ow W' 7 [] [(cellOf (vs' 2) 0)] y.Commits ∧ Ow W' 8 [] [(cellOf (vs' 2) 1)] y.Heads); rw [hv 2 (anyb rfl)]; exact ⟨h.1, h.2.1.upv l (disj_mem hd (c := 7) rfl), h.2.2.upv l (disj_mem hd (c := 8) rfl)⟩) (Sups.cons (fun vs vs' W W' _ hv l hd h => by (show (vs' 3) = vS x1); rw [hv 3 (anyb rfl)]; exact h) (Sups.cons (fun vs vs' W W' _ hv l hd h => by (show (vs' 4) = vS x2); rw [hv 4 (anyb rfl)]; exact h) (Sups.cons (fun vs vs' W W' _ hv l hd h => by (show (vs' 5) = i); rw [hv 5 (anyb rfl)]; exact h) (Sups.cons (fun vs vs' W W' _ hv l hd h => by (show (vs' 6) = vI k); rw [hv 6 (anyb rfl)]; exact h) (Sups.cons (fun vs vs' W W' _ hv l hd h => by (show Ow W' 9 [] [(vs' 7)] ([k] : List Int)); rw [hv 7 (anyb rfl)]; exact h.upv l (disj_mem hd (c := 9) rfl)) (Sups.cons (fun vs vs' W W' _ hv l hd h => by (show (vs' 8) = .agg [(cellOf (vs' 8) 0), (cellOf (vs' 8) 1)].toArray ∧ Ow W' 10 [] [(cellOf (vs' 8) 0)] z.Commits ∧ Ow W' 11 [] [(cellOf (vs' 8) 1)] z.Heads); rw [hv 8 (anyb rfl)]; exact ⟨h.1, h.2.1.upv l (disj_mem hd (c := 10) rfl), h.2.2.upv l (disj_mem hd (c := 11) rfl)⟩) (Sups.cons (fun vs vs' W W' _ hv l hd h => by (show (vs' 9) = .tuple [.agg [(cellOf (cellOf (vs' 9) 0) 0), (cellOf (cellOf (vs' 9) 0) 1)].toArray, vB a.2].toArray ∧ Ow W' 12 [] [(cellOf (cellOf (vs' 9) 0) 0)] a.1.Commits ∧ Ow W' 13 [] [(cellOf (cellOf (vs' 9) 0) 1)] a.1.Heads); rw [hv 9 (anyb rfl)]; exact ⟨h.1, h.2.1.upv l (disj_mem hd (c := 12) rfl), h.2.2.upv l (disj_mem hd (c := 13) rfl)⟩) (Sups.cons (fun vs vs' W W' _ hv l hd h => by (show (vs' 10) = .tuple [.agg [(cellOf (cellOf (vs' 9) 0) 0), (cellOf (cellOf (vs' 9) 0) 1)].toArray, vB a.2].toArray); rw [hv 9 (anyb rfl), hv 10 (anyb rfl)]; exact h) (Sups.cons (fun vs vs' W W' _ hv l hd h => by (show (vs' 11) = .agg [(cellOf (cellOf (vs' 9) 0) 0), (cellOf (cellOf (vs' 9) 0) 1)].toArray); rw [hv 9 (anyb rfl), hv 11 (anyb rfl)]; exact h) (Sups.cons (fun vs vs' W W' _ hv l hd h => by (show (vs' 12) = vB a.2); rw [hv 12 (anyb rfl)]; exact h) (Sups.cons (fun vs vs' W W' _ hv l hd h => by (show (vs' 13) = ptr (bx (pg (vs' 13))) ∧ Bx W' 14 (pg (vs' 13)) [.slice none 0 0, .slice none 0 0]); rw [hv 13 (anyb rfl)]; exact ⟨h.1, h.2.up l (disj_mem hd (c := 14) rfl)⟩) (Sups.cons (fun vs vs' W W' _ hv l hd h => by (show (vs' 13) = ptr (bx (pg (vs' 13))) ∧ Bx W' 14 (pg (vs' 13)) [(cellOf (cellOf (vs' 9) 0) 0), (cellOf (cellOf (vs' 9) 0) 1)]); rw [hv 9 (anyb rfl), hv 13 (anyb rfl)]; exact ⟨h.1, h.2.up l (disj_mem hd (c := 14) rfl)⟩) (Sups.cons (fun vs vs' W W' _ hv l hd h => by (show (vs' 15) = vB a.2); rw [hv 15 (anyb rfl)]; exact h) Sups.nil)))))))))))))))), ?_⟩
  ·intro vs W lW hN
   obtain ⟨c8, c9⟩ : ∃ X, X = W := ⟨W, rfl⟩
   subst c9
   refine Tr.mono (Run.tr (R.lda (cs := [e, f]) ((Z.up F).up lW rfl).cells rfl rfl)) ?_
   rintro _ _ ⟨hu, rfl⟩
   obtain rfl := hu.symm
   exact ⟨c8, rfl, Le.refl _ _, (show (.agg [e, f].toArray : Value) = .agg [e, f].toArray from rfl)⟩
  ·intro vs W lW hN
   obtain ⟨da, db⟩ : ∃ X, X = W := ⟨W, rfl⟩
   subst db
   refine Tr.mono (Run.tr (R.lda (cs := [e, f]) ((Z.up F).up lW rfl).cells rfl rfl)) ?_
   rintro _ _ ⟨hu, rfl⟩
   obtain rfl := hu.symm
   exact ⟨da, rfl, Le.refl _ _, (show (.agg [e, f].toArray : Value) = .agg [e, f].toArray from rfl)⟩
  ·intro vs W lW hN
   obtain ⟨ft, dc⟩ : ∃ X, X = W := ⟨W, rfl⟩
   subst dc
   have b4 := af.t lW rfl
   have ah : vs 1 = .agg [e, f].toArray := (hN 1 (anyb rfl))
   obtain ⟨vs, rfl⟩ := up_eq ah
   refine Tr.mono (T.call rfl (p56 (k0 := 7) (k1 := 8) (Repo.rd (K := [0]) x0.Commits x0.Heads (D.ul b4) (E.ul b4)) c5)) ?_
   rintro _ _ ⟨ai, rfl, dd, ⟨aj, ak, rfl, de, df⟩⟩
   exact ⟨ai, rfl, dd, (show (.agg [aj, ak].toArray : Value) = .agg [aj, ak].toArray ∧ Ow ai 7 [] [aj] y.Commits ∧ Ow ai 8 [] [ak] y.Heads from ⟨rfl, de, df⟩)⟩
  ·intro vs W lW hN
   obtain ⟨dg, dh⟩ : ∃ X, X = W := ⟨W, rfl⟩
   subst dh
   refine Tr.mono (Run.tr (R.mv (v := vS x1) rfl)) ?_
   rintro _ _ ⟨hu, rfl⟩
   obtain rfl := hu.symm
   exact ⟨dg, rfl, Le.refl _ _, (show (vS x1 : Value) = vS x1 from rfl)⟩
  ·intro vs W lW hN
   obtain ⟨di, dj⟩ : ∃ X, X = W := ⟨W, rfl⟩
   subst dj
   refine Tr.mono (Run.tr (R.mv (v := vS x2) rfl)) ?_
   rintro _ _ ⟨hu, rfl⟩
   obtain rfl := hu.symm
   exact ⟨di, rfl, Le.refl _ _, (show (vS x2 : Value) = vS x2 from rfl)⟩
  ·intro vs W lW hN
   obtain ⟨dk, dl⟩ : ∃ X, X = W := ⟨W, rfl⟩
   subst dl
   refine Tr.mono (Run.tr (R.mv (v := i) rfl)) ?_
   rintro _ _ ⟨hu, rfl⟩
   obtain rfl := hu.symm
   exact ⟨dk, rfl, Le.refl _ _, (show (i : Value) = i from rfl)⟩
  ·intro vs W lW hN
   obtain ⟨dm, dn⟩ : ∃ X, X = W := ⟨W, rfl⟩
   subst dn
   refine Tr.mono (Run.tr (R.mv (v := vI k) rfl)) ?_
   rintro _ _ ⟨hu, rfl⟩
   obtain rfl := hu.symm
   exact ⟨dm, rfl, Le.refl _ _, (show (vI k : Value) = vI k from rfl)⟩
  ·intro vs W lW hN
   obtain ⟨dp, dq⟩ : ∃ X, X = W := ⟨W, rfl⟩
   subst dq
   have am : vs 6 = vI k := (hN 6 (anyb rfl))
   obtain ⟨vs, rfl⟩ := up_eq am
   refine Tr.mono (T.bsS (α := Int) (xs := [k]) 9 [] (W := dp) [vI k] (Each.cons ((rdI _)) Each.nil) rfl) ?_
   rintro dr _ ⟨b5, rfl, ds, dt⟩
   exact ⟨b5, rfl, ds, (show Ow b5 9 [] [dr] ([k] : List Int) from dt)⟩
  ·intro vs W lW hN
   obtain ⟨J, du⟩ : ∃ X, X = W := ⟨W, rfl⟩
   subst du
   obtain ⟨an, ao, dv⟩ : ∃ an ao : Value, vs 2 = .agg [an, ao].toArray := ⟨_, _, (hN 2 (anyb rfl)).1⟩
   obtain ⟨vs, rfl⟩ := up_eq dv
   have dw : Ow J 7 [] [an] y.Commits := (hN 2 (anyb rfl)).2.1
   have dx : Ow J 8 [] [ao] y.Heads := (hN 2 (anyb rfl)).2.2
   have ap : vs 3 = vS x1 := (hN 3 (anyb rfl))
   obtain ⟨vs, rfl⟩ := up_eq ap
   have aq : vs 4 = vS x2 := (hN 4 (anyb rfl))
   obtain ⟨vs, rfl⟩ := up_eq aq
   have ar : vs 5 = i := (hN 5 (anyb rfl))
   obtain ⟨vs, rfl⟩ := up_eq ar
   obtain ⟨dy, dz⟩ : ∃ v, vs 7 = v := ⟨_, rfl⟩
   obtain ⟨vs, rfl⟩ := up_eq dz
   have d0 : Ow J 9 [] [dy] ([k] : List Int) := (hN 7 (anyb rfl))
   have d1 : Rd (α := List Vm.File) J [4, 0] [i] C.1 := Ow.rdSh ((co.up F).up lW rfl)
   refine Tr.mono (T.call rfl (p63 (K := [0, 4]) (k0 := 10) (k1 := 11) (c0 := 7) (c1 := 8) (c2 := 9) (x0 := (Vm.Repo.mk y.Commits y.Heads)) dw dx (d1.sub (M := [0, 4]) rfl) d0 rfl c6)) ?_
   rintro _ _ ⟨au, rfl, d2, ⟨av, aw, rfl, d3, d4⟩⟩
   exact ⟨au, rfl, d2, (show (.agg [av, aw].toArray : Value) = .agg [av, aw].toArray ∧ Ow au 10 [] [av] z.Commits ∧ Ow au 11 [] [aw] z.Heads from ⟨rfl, d3, d4⟩)⟩
  ·intro vs W lW hN
   obtain ⟨b6, d5⟩ : ∃ X, X = W := ⟨W, rfl⟩
   subst d5
   have ax := af.t lW rfl
   have ay : vs 0 = .agg [e, f].toArray := (hN 0 (anyb rfl))
   obtain ⟨vs, rfl⟩ := up_eq ay
   obtain ⟨az, a0, d6⟩ : ∃ az a0 : Value, vs 8 = .agg [az, a0].toArray := ⟨_, _, (hN 8 (anyb rfl)).1⟩
   obtain ⟨vs, rfl⟩ := up_eq d6
   have d7 : Ow b6 10 [] [az] z.Commits := (hN 8 (anyb rfl)).2.1
   have d8 : Ow b6 11 [] [a0] z.Heads := (hN 8 (anyb rfl)).2.2
   refine Tr.mono (T.call rfl (p62 (k0 := 12) (k1 := 13) (c0 := 10) (c1 := 11) (x1 := (Vm.Repo.mk z.Commits z.Heads)) (Repo.rd (K := [0]) x0.Commits x0.Heads (D.ul ax) (E.ul ax)) d7 d8 (bn.ul ax) rfl c7)) ?_
   rintro _ _ ⟨a1, rfl, d9, ⟨a3, a5, rfl, ea, eb⟩⟩
   exact ⟨a1, rfl, d9, (show (.tuple [.agg [a3, a5].toArray, vB a.2].toArray : Value) = .tuple [.agg [a3, a5].toArray, vB a.2].toArray ∧ Ow a1 12 [] [a3] a.1.Commits ∧ Ow a1 13 [] [a5] a.1.Heads from ⟨rfl, ea, eb⟩)⟩
  ·intro vs W lW hN
   obtain ⟨a6, ec⟩ : ∃ X, X = W := ⟨W, rfl⟩
   subst ec
   obtain ⟨b, d, B⟩ : ∃ b d : Value, vs 9 = .tuple [.agg [b, d].toArray, vB a.2].toArray := ⟨_, _, (hN 9 (anyb rfl)).1⟩
   obtain ⟨vs, rfl⟩ := up_eq B
   have fu : Ow a6 12 [] [b] a.1.Commits := (hN 9 (anyb rfl)).2.1
   have fv : Ow a6 13 [] [d] a.1.Heads := (hN 9 (anyb rfl)).2.2
   refine Tr.mono (Run.tr (R.mv (v := .tuple [.agg [b, d].toArray, vB a.2].toArray) rfl)) ?_
   rintro _ _ ⟨hu, rfl⟩
   obtain rfl := hu.symm
   exact ⟨a6, rfl, Le.refl _ _, (show (.tuple [.agg [b, d].toArray, vB a.2].toArray : Value) = .tuple [.agg [b, d].toArray, vB a.2].toArray from rfl)⟩
  ·intro vs W lW hN
   obtain ⟨a7, ed⟩ : ∃ X, X = W := ⟨W, rfl⟩
   subst ed
   obtain ⟨b, d, B⟩ : ∃ b d : Value, vs 9 = .tuple [.agg [b, d].toArray, vB a.2].toArray := ⟨_, _, (hN 9 (anyb rfl)).1⟩
   obtain ⟨vs, rfl⟩ := up_eq B
   have fw : Ow a7 12 [] [b] a.1.Commits := (hN 9 (anyb rfl)).2.1
   have fx : Ow a7 13 [] [d] a.1.Heads := (hN 9 (anyb rfl)).2.2
   have G : vs 10 = .tuple [.agg [b, d].toArray, vB a.2].toArray := (hN 10 (anyb rfl))
   obtain ⟨vs, rfl⟩ := up_eq G
   refine Tr.mono (Run.tr (R.ext (vs := [.agg [b, d].toArray, vB a.2]) (v := .agg [b, d].toArray) rfl rfl)) ?_
   rintro _ _ ⟨hu, rfl⟩
   obtain rfl := hu.symm
   exact ⟨a7, rfl, Le.refl _ _, (show (.agg [b, d].toArray : Value) = .agg [b, d].toArray from rfl)⟩
  ·intro vs W lW hN
   obtain ⟨a8, ee⟩ : ∃ X, X = W := ⟨W, rfl⟩
   subst ee
   obtain ⟨b, d, B⟩ : ∃ b d : Value, vs 9 = .tuple [.agg [b, d].toArray, vB a.2].toArray := ⟨_, _, (hN 9 (anyb rfl)).1⟩
   obtain ⟨vs, rfl⟩ := up_eq B
   have fy : Ow a8 12 [] [b] a.1.Commits := (hN 9 (anyb rfl)).2.1
   have fz : Ow a8 13 [] [d] a.1.Heads := (hN 9 (anyb rfl)).2.2
   have G : vs 10 = .tuple [.agg [b, d].toArray, vB a.2].toArray := (hN 10 (anyb rfl))
   obtain ⟨vs, rfl⟩ := up_eq G
   refine Tr.mono (Run.tr (R.ext (vs := [.agg [b, d].toArray, vB a.2]) (v := vB a.2) rfl rfl)) ?_
   rintro _ _ ⟨hu, rfl⟩
   obtain rfl := hu.symm
   exact ⟨a8, rfl, Le.refl _ _, (show (vB a.2 : Value) = vB a.2 from rfl)⟩
  ·intro vs W lW hN
   obtain ⟨f0, ef⟩ : ∃ X, X = W := ⟨W, rfl⟩
   subst ef
   refine Tr.mono (T.alloc 14 (cs := [.slice none 0 0, .slice none 0 0]) rfl) ?_
   rintro _ _ ⟨a9, b7, rfl, rfl, eg, eh⟩
   exact ⟨b7, rfl, eg, (show (ptr (bx a9) : Value) = ptr (bx a9) ∧ Bx b7 14 a9 [.slice none 0 0, .slice none 0 0] from ⟨rfl, eh⟩)⟩
  ·intro vs W lW hN
   obtain ⟨ba, ei⟩ : ∃ X, X = W := ⟨W, rfl⟩
   subst ei
   obtain ⟨b, d, B⟩ : ∃ b d : Value, vs 9 = .tuple [.agg [b, d].toArray, vB a.2].toArray := ⟨_, _, (hN 9 (anyb rfl)).1⟩
   obtain ⟨vs, rfl⟩ := up_eq B
   have ej : Ow ba 12 [] [b] a.1.Commits := (hN 9 (anyb rfl)).2.1
   have ek : Ow ba 13 [] [d] a.1.Heads := (hN 9 (anyb rfl)).2.2
   have bb : vs 11 = .agg [b, d].toArray := (hN 11 (anyb rfl))
   obtain ⟨vs, rfl⟩ := up_eq bb
   obtain ⟨A, bc⟩ : ∃ A, vs 13 = ptr (bx A) := ⟨_, ((hN 13 (anyb rfl))).1⟩
   obtain ⟨vs, rfl⟩ := up_eq bc
   have el : Bx ba 14 A [.slice none 0 0, .slice none 0 0] := (hN 13 (anyb rfl)).2
   refine Tr.mono (T.sta (vs := [b, d]) el rfl rfl (oc_cons ej.oc (oc_cons ek.oc oc_nil)) rfl rfl) ?_
   rintro _ _ ⟨b8, rfl, em, en⟩
   exact ⟨b8, rfl, em, (show (ptr (bx A)) = ptr (bx A) ∧ Bx b8 14 A [b, d] from ⟨rfl, en⟩)⟩
  ·intro vs W lW hN
   obtain ⟨eo, ep⟩ : ∃ X, X = W := ⟨W, rfl⟩
   subst ep
   have be : vs 12 = vB a.2 := (hN 12 (anyb rfl))
   obtain ⟨vs, rfl⟩ := up_eq be
   refine Tr.mono (Run.tr (R.as (v := vB a.2) rfl)) ?_
   rintro _ _ ⟨hu, rfl⟩
   obtain rfl := hu.symm
   exact ⟨eo, rfl, Le.refl _ _, (show (vB a.2 : Value) = vB a.2 from rfl)⟩
  ·intro vs W lW hN
   obtain ⟨bg, er⟩ : ∃ X, X = W := ⟨W, rfl⟩
   subst er
   have b9 := af.t lW rfl
   have cb := (bw.up F).up lW rfl
   obtain ⟨f1, hl251⟩ : ∃ x, x = lW := ⟨lW, rfl⟩
   have ay : vs 0 = .agg [e, f].toArray := (hN 0 (anyb rfl))
   obtain ⟨vs, rfl⟩ := up_eq ay
   have ah : vs 1 = .agg [e, f].toArray := (hN 1 (anyb rfl))
   obtain ⟨vs, rfl⟩ := up_eq ah
   have ap : vs 3 = vS x1 := (hN 3 (anyb rfl))
   obtain ⟨vs, rfl⟩ := up_eq ap
   have aq : vs 4 = vS x2 := (hN 4 (anyb rfl))
   obtain ⟨vs, rfl⟩ := up_eq aq
   have ar : vs 5 = i := (hN 5 (anyb rfl))
   obtain ⟨vs, rfl⟩ := up_eq ar
   have am : vs 6 = vI k := (hN 6 (anyb rfl))
   obtain ⟨vs, rfl⟩ := up_eq am
   obtain ⟨b, d, B⟩ : ∃ b d : Value, vs 9 = .tuple [.agg [b, d].toArray, vB a.2].toArray := ⟨_, _, (hN 9 (anyb rfl)).1⟩
   obtain ⟨vs, rfl⟩ := up_eq B
   have L : Ow bg 12 [] [b] a.1.Commits := (hN 9 (anyb rfl)).2.1
   have N : Ow bg 13 [] [d] a.1.Heads := (hN 9 (anyb rfl)).2.2
   have G : vs 10 = .tuple [.agg [b, d].toArray, vB a.2].toArray := (hN 10 (anyb rfl))
   obtain ⟨vs, rfl⟩ := up_eq G
   have bb : vs 11 = .agg [b, d].toArray := (hN 11 (anyb rfl))
   obtain ⟨vs, rfl⟩ := up_eq bb
   have be : vs 12 = vB a.2 := (hN 12 (anyb rfl))
   obtain ⟨vs, rfl⟩ := up_eq be
   obtain ⟨A, bc⟩ : ∃ A, vs 13 = ptr (bx A) := ⟨_, (hN 14 (anyb rfl)).1⟩
   obtain ⟨vs, rfl⟩ := up_eq bc
   have cc : Bx bg 14 A [b, d] := (hN 14 (anyb rfl)).2
   have es : vs 15 = vB a.2 := (hN 15 (anyb rfl))
   obtain ⟨vs, rfl⟩ := up_eq es
   refine ssr (mb rfl (Lw.r rfl (R.not rfl) (nl (cn hm (fun hm => ?_) fun hm => ?_))))
   ·refine sr (Lw.r rfl (R.lda (cs := [b, d]) cc.cells rfl rfl) (sta cb (oc_cons L.oc (oc_cons N.oc oc_nil)) fun f2 bh et => ?_))
    have eu := b9.t bh
    refine Ni rfl ?_
    obtain ⟨f3, ew, bi, ex⟩ := (L.up bh).dyeO 31
    have ey := eu.t bi
    obtain ⟨f4, ez, bj, e0⟩ := ((N.up bh).up bi).dyeO 32
    have e1 := ey.t bj
    cases hm
    rw [← ez.trans (ew)]
    exact Cw.ret (retA2 rfl ((et.up bi).up bj) rfl (Res.mk e1 ⟨b, d, rfl, (ex.up bj).s, e0.s⟩))
   ·refine sk (sr (Lw.r rfl (R.lda (cs := [b, d]) cc.cells rfl rfl) (sta cb (oc_cons L.oc (oc_cons N.oc oc_nil)) fun f5 bk e2 => ?_)))
    have e3 := b9.t bk
    refine Ni rfl ?_
    obtain ⟨f6, e4, bl, e5⟩ := (L.up bk).dyeO 31
    have e6 := e3.t bl
    obtain ⟨f7, e7, bm, e8⟩ := ((N.up bk).up bl).dyeO 32
    have e9 := e6.t bm
    cases hm
    rw [← e7.trans (e4)]
    exact Cw.ret (retA2 rfl ((e2.up bl).up bm) rfl (Res.mk e9 ⟨b, d, rfl, (e5.up bm).s, e8.s⟩))
theorem p72 {x0 d f x1 x2 x3 h x4 i k0 k1 r} (k : Rd W K [d, f] x0) (x : Rd W K [h] x3) (y : Rd W K [i] x4) (z : Gl 0 W K) (hm : Vm.impl_Repo_apply x0 x1 x2 x3 x4 = some r) : Q1 72 [.agg [d, f].toArray, vS x1, vS x2, h, i] W [] fun W' v => ∃ a b, v = .tuple [.agg [a, b].toArray, vI r.2].toArray ∧ Ow W' k0 [] [a] r.1.Commits ∧ Ow W' k1 [] [b] r.1.Heads :=
 CallR.adJ (J := []) (fun c => bif Nat.beq c 0 then 0 else bif Nat.beq c 31 then k0 else bif Nat.beq c 32 then k1 else 0) (c72 (k.view _) (x.view _) (y.view _) (z.view _) hm) fun _ _ ⟨a, b, e, A, B⟩ => ⟨a, b, e, A.one1.backN rfl, B.one1.backN rfl⟩
theorem c37 {x0 d e x1 x2 x3 x4 r} (h0 : Rd W0 [0] [d, e] x0) (a8 : Gl 0 W0 [0]) (hm : Vm.impl_Repo_pick x0 x1 x2 x3 x4 = some r) : Q0 37 [.agg [d, e].toArray, vS x1, vS x2, vI x3, vB x4] W0 fun Wf v => ∃ an ao, v = .tuple [.agg [an, ao].toArray, vI r.2].toArray ∧ OwS Wf [31] [] [an] r.1.Commits ∧ OwS Wf [32] [] [ao] r.1.Heads := by
 unfold Vm.impl_Repo_pick at hm
 obtain ⟨ct, cu, ap, a, b⟩ := Repo.split h0
 simp only [List.cons.injEq, and_true, true_and] at ap
 obtain ⟨rfl, rfl⟩ := ap
 refine CallR.of Tryz.func37 rfl rfl rfl rfl (sr (bo 2 rfl fun g1 W1 l1 b1 => ?_))
 have a2 := l1.o
 refine al 3 [.slice none 0 0, .slice none 0 0] fun g3 W3 l3 b3 => ?_
 have A := a2.n l3
 have B := b1.up l3
 refine Ni rfl (Cw.seq ?_)
 obtain ⟨K8, bh, hm⟩ := jn_e hm
 refine Cw.join 14 28 [28] (fun l w => ∃ P Q, CW.w Q = w ∧ Le [] W3 Q ∧ l = [vB P] ∧ K8 P = some r) ?_ ?_
 ·rintro _ _ σ ⟨P, Q, rfl, f, rfl, hm⟩
  rw [bh] at hm
  have C := A.n f
  refine cn hm (fun hm => ?_) fun hm => ?_
  ·refine sr (la (B.up f) (cr hm (fun _ => p56 (k0 := 4) (k1 := 5) (Repo.rd (K := [0]) x0.Commits x0.Heads (a.ul C) (b.ul C))) ?_))
   rintro cy _ cz hm au ⟨bi, bj, rfl, av, aw⟩
   have bk := C.n au
   refine sta ((b3.up f).up au) (oc_cons av.oc (oc_cons aw.oc oc_nil)) fun c0 S bl => ?_
   have bm := bk.t S
   refine Ni rfl ?_
   obtain ⟨c1, bn, U, bp⟩ := (av.up S).dyeO 31
   have bq := bm.t U
   obtain ⟨c2, br, V, bu⟩ := ((aw.up S).up U).dyeO 32
   have bv := bq.t V
   cases hm
   rw [← br.trans (bn)]
   exact Cw.ret (retA2 rfl ((bl.up U).up V) rfl (Res.mk bv ⟨bi, bj, rfl, (bp.up V).s, bu.s⟩))
  ·refine sk (Cw.seq (Cw.draw [] [(0, 1), (1, 1), (2, 0), (5, 1), (6, 0), (3, 2), (4, 2), (7, 2), (8, 0), (9, 0)] mixed (by kernel_rfl) fun c3 W => ?_))
   have X := C.n W
   have D := (B.up f).up W
   refine Mw.q rfl rfl (fun _ c => R.lda (cs := [d, e]) (D.clcs rfl c) rfl rfl) (Mw.q rfl rfl (fun _ c => R.lda (cs := [d, e]) (D.clcs rfl c) rfl rfl) (Di rfl (Mw.q rfl rfl (fun _ c => R.lda (cs := [d, e]) (D.clcs rfl c) rfl rfl) (Di rfl ?_))))
   obtain ⟨c4, bw, hm⟩ := ob hm
   refine Mw.t rfl rfl (T.call rfl (p71  (Repo.rd (K := [0]) x0.Commits x0.Heads (a.ul X) (b.ul X)) bw)) ?_
   rintro _ _ ⟨c5, rfl, E, rfl⟩
   have Y := X.n E
   refine m0 E fun bz => ?_
   obtain ⟨ax, b0, hm⟩ := ob hm
   refine Mw.t rfl rfl (T.call rfl (p61  (Repo.rd (K := [0]) x0.Commits x0.Heads (a.ul Y) (b.ul Y)) b0)) ?_
   rintro h _ ⟨c6, rfl, F, ⟨_, rfl, b2⟩⟩
   have ay := b2.sub (M := [0]) rfl
   have Z := Y.n F
   refine mc bz F fun b4 => ?_
   obtain ⟨az, b6, hm⟩ := ob hm
   refine Mw.t rfl rfl (T.call rfl (p61  (Repo.rd (K := [0]) x0.Commits x0.Heads (a.ul Z) (b.ul Z)) b6)) ?_
   rintro i _ ⟨aa, rfl, G, ⟨_, rfl, b7⟩⟩
   have a0 := b7.sub (M := [0]) rfl
   have ac := G.o
   refine mc b4 G fun c7 => Hv h rfl (Hv i rfl (Mw.nil ?_))
   obtain ⟨b8, b9, hm⟩ := jn_e hm
   refine Cw.join 39 41 [12, 13] (fun l w => ∃ ae af H I k, CW.w k = w ∧ Le [] aa k ∧ l = [H, I] ∧ Rd k [0] [H] ae ∧ Rd k [0] [I] af ∧ b8 ae af = some r) ?_ ?_
   ·rintro _ _ σ ⟨ae, af, H, I, k, rfl, ah, rfl, r68, r71, hm⟩
    rw [b9] at hm
    have J := (Z.trans ac).n ah
    refine sr (la ((((D.up E).up F).up G).up ah) (ms rfl (ms rfl (mv H rfl (mv I rfl (cr hm (fun _ => p72 (k0 := 6) (k1 := 7) (Repo.rd (K := [0]) x0.Commits x0.Heads (a.ul J) (b.ul J)) r68 r71 (a8.ul J)) ?_))))))
    rintro ai _ c8 hm a1 ⟨L, N, rfl, a3, a5⟩
    have cb := J.n a1
    refine Lw.r rfl (R.ext (vs := [.agg [L, N].toArray, vI ai.2]) (v := .agg [L, N].toArray) rfl rfl) (Lw.r rfl (R.ext (vs := [.agg [L, N].toArray, vI ai.2]) (v := vI ai.2) rfl rfl) (sta (((((((b3.up f).up W).up E).up F).up G).up ah).up a1) (oc_cons a3.oc (oc_cons a5.oc oc_nil)) fun c9 aj cc => ?_))
    have cd := cb.t aj
    refine Ni rfl ?_
    obtain ⟨da, ce, ak, cf⟩ := (a3.up aj).dyeO 31
    have cg := cd.t ak
    obtain ⟨db, ch, am, ci⟩ := ((a5.up aj).up ak).dyeO 32
    have cj := cg.t am
    cases hm
    rw [← ch.trans (ce)]
    exact Cw.ret (retA2 rfl ((cc.up ak).up am) rfl (Res.mk cj ⟨L, N, rfl, (cf.up am).s, ci.s⟩))
   ·refine sr (mb rfl (nl (cn hm (fun hm => ?_) fun hm => ?_)))
    ·exact rg (mv i rfl (mv h rfl (Gv i rfl (Nv h rfl ((ag) ⟨az, ax, i, h, aa, rfl, Le.refl _ _, rfl, a0, (ay.ul ac), hm⟩)))))
    ·exact sk ((ag) ⟨ax, az, h, i, aa, rfl, Le.refl _ _, rfl, (ay.ul ac), a0, hm⟩)
 ·refine rg (la B (ms rfl (ca hm (fun _ => p54 (Repo.rd (K := [0]) x0.Commits x0.Heads (a.ul A) (b.ul A))) fun dc ck hm x => ?_)))
  have cl := A.n x
  refine Lw.lt rfl (mb rfl (bs hm (fun y hm => ?_) fun y hm => ?_))
  ·exact psk 3 y rfl (Pb y rfl (mb rfl (psk 4 rfl rfl (Pb rfl rfl (nl ((ag) ⟨true, ck, rfl, x, rfl, hm⟩))))))
  ·refine wak 3 y (ms rfl (ca hm (fun _ => p50) fun dd cm hm O => ?_))
   have a6 := cl.n O
   refine Lw.r rfl (R.not rfl) (Pb y rfl (mb rfl (bs hm (fun z hm => ?_) fun z hm => ?_)))
   ·exact psk 4 z rfl (Pb z rfl (nl ((ag) ⟨true, cm, rfl, (x.j O).w, rfl, hm⟩)))
   ·exact wak 4 z (la ((B.up x).up O) (mi rfl (ca hm (fun _ => p55 (Repo.rd (K := [0]) x0.Commits x0.Heads (a.ul a6) (b.ul a6))) fun co cp hm cq => Lw.r rfl (R.not rfl) (Pb z rfl (nl ((ag) ⟨(!co), cp, rfl, ((x.j O).j cq).w, rfl, hm⟩))))))
theorem p37 {x0 d f x1 x2 x3 x4 k0 k1 r} (h : Rd W K [d, f] x0) (i : Gl 0 W K) (hm : Vm.impl_Repo_pick x0 x1 x2 x3 x4 = some r) : Q1 37 [.agg [d, f].toArray, vS x1, vS x2, vI x3, vB x4] W [] fun W' v => ∃ a b, v = .tuple [.agg [a, b].toArray, vI r.2].toArray ∧ Ow W' k0 [] [a] r.1.Commits ∧ Ow W' k1 [] [b] r.1.Heads :=
 CallR.adJ (J := []) (fun c => bif Nat.beq c 0 then 0 else bif Nat.beq c 31 then k0 else bif Nat.beq c 32 then k1 else 0) (c37 (h.view _) (i.view _) hm) fun _ _ ⟨a, b, e, k, x⟩ => ⟨a, b, e, k.one1.backN rfl, x.one1.backN rfl⟩
theorem c92 {x0 b x1 e r} (d : Rd W0 [0] [b] x0) (f : Rd W0 [0] [e] x1) (hm : Vm.laws_eqIntS x0 x1 = some r) : Q0 92 [b, e] W0 fun Wf v => v = vB r := by
 unfold Vm.laws_eqIntS at hm
 refine CallR.of Tryz.func92 rfl rfl rfl rfl (sr (Nb rfl (ssr (mv b rfl (Lw.ln x0 d rfl (mv e rfl (Lw.ln x1 f rfl (Lw.ne rfl (nl (cn hm (fun hm => ?_) fun hm => ?_))))))))))
 ·exact sr (Nb rfl (.ret (rt hm (Le.refl _ _))))
 ·refine sk (ssr (Ni rfl (Cw.block ?_)))
  obtain ⟨B, C, hm⟩ := jn_e hm
  refine Cw.loop 11 25 [4, 5] (fun m l w => ∃ h i k, CW.w k = w ∧ Le [] W0 k ∧ l = [vB h, vI i] ∧ Vm.laws_eqIntS_l1 x0 x1 B m h i = some r) _ ⟨false, 0, W0, rfl, Le.refl _ _, rfl, hm⟩ ?_
  rintro (_ | E) _ _ σ ⟨h, i, k, rfl, A, rfl, hm⟩
  ·cases hm
  unfold Vm.laws_eqIntS_l1 at hm
  have x := A.o
  refine ssr (mi rfl (mv b rfl (Lw.ln x0 (d.ul x) rfl (Lw.lt rfl (nl (cn hm (fun hm => ?_) fun hm => ?_))))))
  ·refine sk (Cw.seq (Cw.block (Cw.seq (Cw.draw [] [(0, 0), (1, 0), (2, 0), (3, 1), (4, 0), (5, 0), (6, 0), (7, 1), (8, 0)] mixed (by kernel_rfl) fun D l10 => ?_))))
   have a := x.n l10
   refine Dv b rfl (Di rfl ?_)
   obtain ⟨F, y, hm⟩ := ob hm
   refine Mw.p rfl rfl (fun _ => R.ix (α := Int) (d.ul a) y rfl rfl rfl) (Mw.q rfl rfl (fun _ c => R.ld rfl rfl (cl_cell ((d.ul a).at_ y).1 rfl ((d.ul a).at_ y).int c)) (Dv e rfl (Di rfl ?_)))
   obtain ⟨G, z, hm⟩ := ob hm
   refine Mw.p rfl rfl (fun _ => R.ix (α := Int) (f.ul a) z rfl rfl rfl) (Mw.q rfl rfl (fun _ c => R.ld rfl rfl (cl_cell ((f.ul a).at_ z).1 rfl ((f.ul a).at_ z).int c)) (Mw.p rfl rfl (fun _ => R.ne rfl rfl) (Mw.nil (cn hm (fun hm => ?_) fun hm => ?_))))
   ·exact sr (Nb rfl (.ret (rt hm a)))
   ·exact sk (rg (mi rfl (Lw.add rfl (Ni rfl ((agm) ⟨h, w64 (i + 1), D, rfl, (A.j l10).w, rfl, hm⟩)))))
  ·refine Cw.exit ?_
   rw [C] at hm
   exact sr (Nb rfl (.ret (rt hm x)))
theorem p92 {x0 a x1 b r} (d : Rd W K [a] x0) (f : Rd W K [b] x1) (hm : Vm.laws_eqIntS x0 x1 = some r) : Q1 92 [a, b] W [] fun W' v => v = vB r :=
 (c92 (d.view _) (f.view _) hm).ad (fk 0) fun _ _ e => e
theorem c129 {x0 b x1 e r} (d : Rd W0 [0] [b] x0) (f : Rd W0 [0] [e] x1) (hm : Vm.laws_eqStringS x0 x1 = some r) : Q0 129 [b, e] W0 fun Wf v => v = vB r := by
 unfold Vm.laws_eqStringS at hm
 refine CallR.of Tryz.func129 rfl rfl rfl rfl (sr (Nb rfl (ssr (mv b rfl (Lw.ln x0 d rfl (mv e rfl (Lw.ln x1 f rfl (Lw.ne rfl (nl (cn hm (fun hm => ?_) fun hm => ?_))))))))))
 ·exact sr (Nb rfl (.ret (rt hm (Le.refl _ _))))
 ·refine sk (ssr (Ni rfl (Cw.block ?_)))
  obtain ⟨B, C, hm⟩ := jn_e hm
  refine Cw.loop 11 25 [4, 5] (fun m l w => ∃ h i k, CW.w k = w ∧ Le [] W0 k ∧ l = [vB h, vI i] ∧ Vm.laws_eqStringS_l1 x0 x1 B m h i = some r) _ ⟨false, 0, W0, rfl, Le.refl _ _, rfl, hm⟩ ?_
  rintro (_ | E) _ _ σ ⟨h, i, k, rfl, A, rfl, hm⟩
  ·cases hm
  unfold Vm.laws_eqStringS_l1 at hm
  have x := A.o
  refine ssr (mi rfl (mv b rfl (Lw.ln x0 (d.ul x) rfl (Lw.lt rfl (nl (cn hm (fun hm => ?_) fun hm => ?_))))))
  ·refine sk (Cw.seq (Cw.block (Cw.seq (Cw.draw [] [(0, 0), (1, 0), (2, 0), (3, 1), (4, 0), (5, 0), (6, 0), (7, 1), (8, 0)] mixed (by kernel_rfl) fun D l10 => ?_))))
   have a := x.n l10
   refine Dv b rfl (Di rfl ?_)
   obtain ⟨F, y, hm⟩ := ob hm
   refine Mw.p rfl rfl (fun _ => R.ix (α := Str) (d.ul a) y rfl rfl rfl) (Mw.q rfl rfl (fun _ c => R.ld rfl rfl (cl_cell ((d.ul a).at_ y).1 rfl ((d.ul a).at_ y).str c)) (Dv e rfl (Di rfl ?_)))
   obtain ⟨G, z, hm⟩ := ob hm
   refine Mw.p rfl rfl (fun _ => R.ix (α := Str) (f.ul a) z rfl rfl rfl) (Mw.q rfl rfl (fun _ c => R.ld rfl rfl (cl_cell ((f.ul a).at_ z).1 rfl ((f.ul a).at_ z).str c)) (Mw.p rfl rfl (fun _ => R.sne rfl rfl) (Mw.nil (cn hm (fun hm => ?_) fun hm => ?_))))
   ·exact sr (Nb rfl (.ret (rt hm a)))
   ·exact sk (rg (mi rfl (Lw.add rfl (Ni rfl ((agm) ⟨h, w64 (i + 1), D, rfl, (A.j l10).w, rfl, hm⟩)))))
  ·refine Cw.exit ?_
   rw [C] at hm
   exact sr (Nb rfl (.ret (rt hm x)))
theorem p129 {x0 a x1 b r} (d : Rd W K [a] x0) (f : Rd W K [b] x1) (hm : Vm.laws_eqStringS x0 x1 = some r) : Q1 129 [a, b] W [] fun W' v => v = vB r :=
 (c129 (d.view _) (f.view _) hm).ad (fk 0) fun _ _ e => e
theorem c112 {x0 d x1 e r} (y : Rd W0 [0] [vS x0.Path, d] x0) (z : Rd W0 [0] [vS x1.Path, e] x1) (hm : Vm.laws_eqFile x0 x1 = some r) : Q0 112 [.agg [vS x0.Path, d].toArray, .agg [vS x1.Path, e].toArray] W0 fun Wf v => v = vB r := by
 unfold Vm.laws_eqFile at hm
 obtain ⟨F, f, A⟩ := File.split y
 simp only [List.cons.injEq, and_true, true_and] at f
 obtain rfl := f
 obtain ⟨G, h, B⟩ := File.split z
 simp only [List.cons.injEq, and_true, true_and] at h
 obtain rfl := h
 refine CallR.of Tryz.func112 rfl rfl rfl rfl (sr (bo 2 rfl fun H I C i => ?_))
 have D := C.o
 refine bo 3 rfl fun J K b k => ?_
 have a := D.n b
 refine Nb rfl (ssr (fl (i.up b) rfl (fl k rfl (Lw.sne rfl (nl (cn hm (fun hm => ?_) fun hm => ?_))))))
 ·exact sr (Nb rfl (.ret (rt hm a)))
 ·refine sk (ssr (fl (i.up b) rfl (fl k rfl (ca hm (fun _ => p129 (A.ul a) (B.ul a)) fun L M hm E => ?_))))
  have x := a.n E
  refine Lw.r rfl (R.not rfl) (nl (cn hm (fun hm => ?_) fun hm => ?_))
  ·exact sr (Nb rfl (.ret (rt hm x)))
  ·exact sk (sr (Nb rfl (.ret (rt hm x))))
theorem p112 {x0 a x1 b r} (d : Rd W K [vS x0.Path, a] x0) (f : Rd W K [vS x1.Path, b] x1) (hm : Vm.laws_eqFile x0 x1 = some r) : Q1 112 [.agg [vS x0.Path, a].toArray, .agg [vS x1.Path, b].toArray] W [] fun W' v => v = vB r :=
 (c112 (d.view _) (f.view _) hm).ad (fk 0) fun _ _ e => e
theorem c93 {x0 b x1 e r} (d : Rd W0 [0] [b] x0) (f : Rd W0 [0] [e] x1) (hm : Vm.laws_eqFileS x0 x1 = some r) : Q0 93 [b, e] W0 fun Wf v => v = vB r := by
 unfold Vm.laws_eqFileS at hm
 refine CallR.of Tryz.func93 rfl rfl rfl rfl (sr (Nb rfl (ssr (mv b rfl (Lw.ln x0 d rfl (mv e rfl (Lw.ln x1 f rfl (Lw.ne rfl (nl (cn hm (fun hm => ?_) fun hm => ?_))))))))))
 ·exact sr (Nb rfl (.ret (rt hm (Le.refl _ _))))
 ·refine sk (ssr (Ni rfl (Cw.block ?_)))
  obtain ⟨E, F, hm⟩ := jn_e hm
  refine Cw.loop 11 26 [4, 5] (fun m l w => ∃ h i k, CW.w k = w ∧ Le [] W0 k ∧ l = [vB h, vI i] ∧ Vm.laws_eqFileS_l1 x0 x1 E m h i = some r) _ ⟨false, 0, W0, rfl, Le.refl _ _, rfl, hm⟩ ?_
  rintro (_ | J) _ _ σ ⟨h, i, k, rfl, A, rfl, hm⟩
  ·cases hm
  unfold Vm.laws_eqFileS_l1 at hm
  have x := A.o
  refine ssr (mi rfl (mv b rfl (Lw.ln x0 (d.ul x) rfl (Lw.lt rfl (nl (cn hm (fun hm => ?_) fun hm => ?_))))))
  ·refine sk (Cw.seq (Cw.block (Cw.seq (Cw.draw [] [(0, 0), (1, 0), (2, 0), (3, 1), (4, 0), (5, 0), (6, 0), (7, 1), (8, 3), (9, 0)] mixed (by kernel_rfl) fun L l10 => ?_))))
   have a := x.n l10
   refine Dv b rfl (Di rfl ?_)
   obtain ⟨B, y, hm⟩ := ob hm
   refine Mw.p rfl rfl (fun _ => R.ix (α := File) (d.ul a) y rfl rfl rfl) ?_
   obtain ⟨x15, c16, _, r17⟩ := ((d.ul a).at_ y).cells
   obtain ⟨M, rfl, r19⟩ := File.split r17
   refine Mw.q rfl rfl (fun _ c => R.lda (cl_cells ((d.ul a).at_ y).1 rfl c16 c) rfl rfl) (Dv e rfl (Di rfl ?_))
   obtain ⟨C, z, hm⟩ := ob hm
   refine Mw.p rfl rfl (fun _ => R.ix (α := File) (f.ul a) z rfl rfl rfl) ?_
   obtain ⟨x23, c24, _, r25⟩ := ((f.ul a).at_ z).cells
   obtain ⟨N, rfl, r27⟩ := File.split r25
   refine Mw.q rfl rfl (fun _ c => R.lda (cl_cells ((f.ul a).at_ z).1 rfl c24 c) rfl rfl) ?_
   obtain ⟨O, G, hm⟩ := ob hm
   refine Mw.l rfl rfl (T.call rfl (p112  (File.rd (K := [0]) B.Path B.Text r19) (File.rd (K := [0]) C.Path C.Text r27) G)) ?_
   rintro _ _ ⟨H, rfl, D, rfl⟩
   have I := a.n D
   refine Mw.p rfl rfl (fun _ => R.not rfl) (Mw.nil (cn hm (fun hm => ?_) fun hm => ?_))
   ·exact sr (Nb rfl (.ret (rt hm I)))
   ·exact sk (rg (mi rfl (Lw.add rfl (Ni rfl ((agm) ⟨h, w64 (i + 1), H, rfl, ((A.j l10).j D).w, rfl, hm⟩)))))
  ·refine Cw.exit ?_
   rw [F] at hm
   exact sr (Nb rfl (.ret (rt hm x)))
theorem p93 {x0 a x1 b r} (d : Rd W K [a] x0) (f : Rd W K [b] x1) (hm : Vm.laws_eqFileS x0 x1 = some r) : Q1 93 [a, b] W [] fun W' v => v = vB r :=
 (c93 (d.view _) (f.view _) hm).ad (fk 0) fun _ _ e => e
theorem c64 {x0 f h x1 i k r} (C : Rd W0 [0] [f, vS x0.Who, h] x0) (D : Rd W0 [0] [i, vS x1.Who, k] x1) (hm : Vm.laws_eqCommit x0 x1 = some r) : Q0 64 [.agg [f, vS x0.Who, h].toArray, .agg [i, vS x1.Who, k].toArray] W0 fun Wf v => v = vB r := by
 unfold Vm.laws_eqCommit at hm
 obtain ⟨L, M, x, E, F⟩ := Commit.split C
 simp only [List.cons.injEq, and_true, true_and] at x
 obtain ⟨rfl, rfl⟩ := x
 obtain ⟨N, O, y, G, H⟩ := Commit.split D
 simp only [List.cons.injEq, and_true, true_and] at y
 obtain ⟨rfl, rfl⟩ := y
 refine CallR.of Tryz.func64 rfl rfl rfl rfl (sr (bo 2 rfl fun P Q I z => ?_))
 have J := I.o
 refine bo 3 rfl fun S T b d => ?_
 have e := J.n b
 refine Nb rfl (ssr (fl (z.up b) rfl (fl d rfl (ca hm (fun _ => p92 (E.ul e) (G.ul e)) fun U V hm l10 => ?_))))
 have a := e.n l10
 have A := (z.up b).up l10
 refine Lw.r rfl (R.not rfl) (nl (cn hm (fun hm => ?_) fun hm => ?_))
 ·exact sr (Nb rfl (.ret (rt hm a)))
 ·refine sk (ssr (fl A rfl (fl (d.up l10) rfl (Lw.sne rfl (nl (cn hm (fun hm => ?_) fun hm => ?_))))))
  ·exact sr (Nb rfl (.ret (rt hm a)))
  ·refine sk (ssr (fl A rfl (fl (d.up l10) rfl (ca hm (fun _ => p93 (F.ul a) (H.ul a)) fun W X hm K => ?_))))
   have B := a.n K
   refine Lw.r rfl (R.not rfl) (nl (cn hm (fun hm => ?_) fun hm => ?_))
   ·exact sr (Nb rfl (.ret (rt hm B)))
   ·exact sk (sr (Nb rfl (.ret (rt hm B))))
theorem p64 {x0 a b x1 d f r} (h : Rd W K [a, vS x0.Who, b] x0) (i : Rd W K [d, vS x1.Who, f] x1) (hm : Vm.laws_eqCommit x0 x1 = some r) : Q1 64 [.agg [a, vS x0.Who, b].toArray, .agg [d, vS x1.Who, f].toArray] W [] fun W' v => v = vB r :=
 (c64 (h.view _) (i.view _) hm).ad (fk 0) fun _ _ e => e
theorem c29 {x0 b x1 e r} (d : Rd W0 [0] [b] x0) (f : Rd W0 [0] [e] x1) (hm : Vm.laws_eqCommitS x0 x1 = some r) : Q0 29 [b, e] W0 fun Wf v => v = vB r := by
 unfold Vm.laws_eqCommitS at hm
 refine CallR.of Tryz.func29 rfl rfl rfl rfl (sr (Nb rfl (ssr (mv b rfl (Lw.ln x0 d rfl (mv e rfl (Lw.ln x1 f rfl (Lw.ne rfl (nl (cn hm (fun hm => ?_) fun hm => ?_))))))))))
 ·exact sr (Nb rfl (.ret (rt hm (Le.refl _ _))))
 ·refine sk (ssr (Ni rfl (Cw.block ?_)))
  obtain ⟨E, F, hm⟩ := jn_e hm
  refine Cw.loop 11 26 [4, 5] (fun m l w => ∃ h i k, CW.w k = w ∧ Le [] W0 k ∧ l = [vB h, vI i] ∧ Vm.laws_eqCommitS_l1 x0 x1 E m h i = some r) _ ⟨false, 0, W0, rfl, Le.refl _ _, rfl, hm⟩ ?_
  rintro (_ | J) _ _ σ ⟨h, i, k, rfl, C, rfl, hm⟩
  ·cases hm
  unfold Vm.laws_eqCommitS_l1 at hm
  have x := C.o
  refine ssr (mi rfl (mv b rfl (Lw.ln x0 (d.ul x) rfl (Lw.lt rfl (nl (cn hm (fun hm => ?_) fun hm => ?_))))))
  ·refine sk (Cw.seq (Cw.block (Cw.seq (Cw.draw [] [(0, 0), (1, 0), (2, 0), (3, 1), (4, 0), (5, 0), (6, 0), (7, 1), (8, 3), (9, 0)] mixed (by kernel_rfl) fun L l10 => ?_))))
   have a := x.n l10
   refine Dv b rfl (Di rfl ?_)
   obtain ⟨y, z, hm⟩ := ob hm
   refine Mw.p rfl rfl (fun _ => R.ix (α := Commit) (d.ul a) z rfl rfl rfl) ?_
   obtain ⟨x15, c16, _, r17⟩ := ((d.ul a).at_ z).cells
   obtain ⟨M, N, rfl, r19, r21⟩ := Commit.split r17
   refine Mw.q rfl rfl (fun _ c => R.lda (cl_cells ((d.ul a).at_ z).1 rfl c16 c) rfl rfl) (Dv e rfl (Di rfl ?_))
   obtain ⟨A, B, hm⟩ := ob hm
   refine Mw.p rfl rfl (fun _ => R.ix (α := Commit) (f.ul a) B rfl rfl rfl) ?_
   obtain ⟨x25, c26, _, r27⟩ := ((f.ul a).at_ B).cells
   obtain ⟨O, P, rfl, r29, r31⟩ := Commit.split r27
   refine Mw.q rfl rfl (fun _ c => R.lda (cl_cells ((f.ul a).at_ B).1 rfl c26 c) rfl rfl) ?_
   obtain ⟨Q, G, hm⟩ := ob hm
   refine Mw.l rfl rfl (T.call rfl (p64  (Commit.rd (K := [0]) y.Parents y.Who y.Tree r19 r21) (Commit.rd (K := [0]) A.Parents A.Who A.Tree r29 r31) G)) ?_
   rintro _ _ ⟨H, rfl, D, rfl⟩
   have I := a.n D
   refine Mw.p rfl rfl (fun _ => R.not rfl) (Mw.nil (cn hm (fun hm => ?_) fun hm => ?_))
   ·exact sr (Nb rfl (.ret (rt hm I)))
   ·exact sk (rg (mi rfl (Lw.add rfl (Ni rfl ((agm) ⟨h, w64 (i + 1), H, rfl, ((C.j l10).j D).w, rfl, hm⟩)))))
  ·refine Cw.exit ?_
   rw [F] at hm
   exact sr (Nb rfl (.ret (rt hm x)))
theorem p29 {x0 a x1 b r} (d : Rd W K [a] x0) (f : Rd W K [b] x1) (hm : Vm.laws_eqCommitS x0 x1 = some r) : Q1 29 [a, b] W [] fun W' v => v = vB r :=
 (c29 (d.view _) (f.view _) hm).ad (fk 0) fun _ _ e => e
theorem c65 {x0 x1 r} (i : Rd W0 [0] [vS x0.Name, vI x0.At] x0) (k : Rd W0 [0] [vS x1.Name, vI x1.At] x1) (hm : Vm.laws_eqHead x0 x1 = some r) : Q0 65 [.agg [vS x0.Name, vI x0.At].toArray, .agg [vS x1.Name, vI x1.At].toArray] W0 fun Wf v => v = vB r := by
 unfold Vm.laws_eqHead at hm
 refine CallR.of Tryz.func65 rfl rfl rfl rfl (sr (bo 2 rfl fun x y f d => ?_))
 have h := f.o
 refine bo 3 rfl fun z A a e => ?_
 have b := h.n a
 refine Nb rfl (ssr (fl (d.up a) rfl (fl e rfl (Lw.sne rfl (nl (cn hm (fun hm => ?_) fun hm => ?_))))))
 ·exact sr (Nb rfl (.ret (rt hm b)))
 ·refine sk (ssr (fl (d.up a) rfl (fl e rfl (Lw.ne rfl (nl (cn hm (fun hm => ?_) fun hm => ?_))))))
  ·exact sr (Nb rfl (.ret (rt hm b)))
  ·exact sk (sr (Nb rfl (.ret (rt hm b))))
theorem p65 {x0 x1 r} (a : Rd W K [vS x0.Name, vI x0.At] x0) (b : Rd W K [vS x1.Name, vI x1.At] x1) (hm : Vm.laws_eqHead x0 x1 = some r) : Q1 65 [.agg [vS x0.Name, vI x0.At].toArray, .agg [vS x1.Name, vI x1.At].toArray] W [] fun W' v => v = vB r :=
 (c65 (a.view _) (b.view _) hm).ad (fk 0) fun _ _ e => e
theorem c30 {x0 b x1 e r} (d : Rd W0 [0] [b] x0) (f : Rd W0 [0] [e] x1) (hm : Vm.laws_eqHeadS x0 x1 = some r) : Q0 30 [b, e] W0 fun Wf v => v = vB r := by
 unfold Vm.laws_eqHeadS at hm
 refine CallR.of Tryz.func30 rfl rfl rfl rfl (sr (Nb rfl (ssr (mv b rfl (Lw.ln x0 d rfl (mv e rfl (Lw.ln x1 f rfl (Lw.ne rfl (nl (cn hm (fun hm => ?_) fun hm => ?_))))))))))
 ·exact sr (Nb rfl (.ret (rt hm (Le.refl _ _))))
 ·refine sk (ssr (Ni rfl (Cw.block ?_)))
  obtain ⟨E, F, hm⟩ := jn_e hm
  refine Cw.loop 11 26 [4, 5] (fun m l w => ∃ h i k, CW.w k = w ∧ Le [] W0 k ∧ l = [vB h, vI i] ∧ Vm.laws_eqHeadS_l1 x0 x1 E m h i = some r) _ ⟨false, 0, W0, rfl, Le.refl _ _, rfl, hm⟩ ?_
  rintro (_ | J) _ _ σ ⟨h, i, k, rfl, A, rfl, hm⟩
  ·cases hm
  unfold Vm.laws_eqHeadS_l1 at hm
  have x := A.o
  refine ssr (mi rfl (mv b rfl (Lw.ln x0 (d.ul x) rfl (Lw.lt rfl (nl (cn hm (fun hm => ?_) fun hm => ?_))))))
  ·refine sk (Cw.seq (Cw.block (Cw.seq (Cw.draw [] [(0, 0), (1, 0), (2, 0), (3, 1), (4, 0), (5, 0), (6, 0), (7, 1), (8, 3), (9, 0)] mixed (by kernel_rfl) fun L l10 => ?_))))
   have a := x.n l10
   refine Dv b rfl (Di rfl ?_)
   obtain ⟨B, y, hm⟩ := ob hm
   refine Mw.p rfl rfl (fun _ => R.ix (α := Head) (d.ul a) y rfl rfl rfl) ?_
   obtain ⟨x15, c16, _, r17⟩ := ((d.ul a).at_ y).cells
   obtain rfl := Head.split r17
   refine Mw.q rfl rfl (fun _ c => R.lda (cl_cells ((d.ul a).at_ y).1 rfl c16 c) rfl rfl) (Dv e rfl (Di rfl ?_))
   obtain ⟨C, z, hm⟩ := ob hm
   refine Mw.p rfl rfl (fun _ => R.ix (α := Head) (f.ul a) z rfl rfl rfl) ?_
   obtain ⟨x21, c22, _, r23⟩ := ((f.ul a).at_ z).cells
   obtain rfl := Head.split r23
   refine Mw.q rfl rfl (fun _ c => R.lda (cl_cells ((f.ul a).at_ z).1 rfl c22 c) rfl rfl) ?_
   obtain ⟨M, G, hm⟩ := ob hm
   refine Mw.l rfl rfl (T.call rfl (p65  (Head.rd (K := [0]) B.Name B.At ) (Head.rd (K := [0]) C.Name C.At ) G)) ?_
   rintro _ _ ⟨H, rfl, D, rfl⟩
   have I := a.n D
   refine Mw.p rfl rfl (fun _ => R.not rfl) (Mw.nil (cn hm (fun hm => ?_) fun hm => ?_))
   ·exact sr (Nb rfl (.ret (rt hm I)))
   ·exact sk (rg (mi rfl (Lw.add rfl (Ni rfl ((agm) ⟨h, w64 (i + 1), H, rfl, ((A.j l10).j D).w, rfl, hm⟩)))))
  ·refine Cw.exit ?_
   rw [F] at hm
   exact sr (Nb rfl (.ret (rt hm x)))
theorem p30 {x0 a x1 b r} (d : Rd W K [a] x0) (f : Rd W K [b] x1) (hm : Vm.laws_eqHeadS x0 x1 = some r) : Q1 30 [a, b] W [] fun W' v => v = vB r :=
 (c30 (d.view _) (f.view _) hm).ad (fk 0) fun _ _ e => e
theorem c10 {x0 e f x1 h i r} (B : Rd W0 [0] [e, f] x0) (C : Rd W0 [0] [h, i] x1) (hm : Vm.laws_eqRepo x0 x1 = some r) : Q0 10 [.agg [e, f].toArray, .agg [h, i].toArray] W0 fun Wf v => v = vB r := by
 unfold Vm.laws_eqRepo at hm
 obtain ⟨K, L, k, D, E⟩ := Repo.split B
 simp only [List.cons.injEq, and_true, true_and] at k
 obtain ⟨rfl, rfl⟩ := k
 obtain ⟨M, N, x, F, G⟩ := Repo.split C
 simp only [List.cons.injEq, and_true, true_and] at x
 obtain ⟨rfl, rfl⟩ := x
 refine CallR.of Tryz.func10 rfl rfl rfl rfl (sr (bo 2 rfl fun O P H y => ?_))
 have I := H.o
 refine bo 3 rfl fun Q S b z => ?_
 have d := I.n b
 refine Nb rfl (ssr (fl (y.up b) rfl (fl z rfl (ca hm (fun _ => p29 (D.ul d) (F.ul d)) fun T U hm l10 => ?_))))
 have a := d.n l10
 refine Lw.r rfl (R.not rfl) (nl (cn hm (fun hm => ?_) fun hm => ?_))
 ·exact sr (Nb rfl (.ret (rt hm a)))
 ·refine sk (ssr (fl ((y.up b).up l10) rfl (fl (z.up l10) rfl (ca hm (fun _ => p30 (E.ul a) (G.ul a)) fun V W hm J => ?_))))
  have A := a.n J
  refine Lw.r rfl (R.not rfl) (nl (cn hm (fun hm => ?_) fun hm => ?_))
  ·exact sr (Nb rfl (.ret (rt hm A)))
  ·exact sk (sr (Nb rfl (.ret (rt hm A))))
theorem p10 {x0 a b x1 d f r} (h : Rd W K [a, b] x0) (i : Rd W K [d, f] x1) (hm : Vm.laws_eqRepo x0 x1 = some r) : Q1 10 [.agg [a, b].toArray, .agg [d, f].toArray] W [] fun W' v => v = vB r :=
 (c10 (h.view _) (i.view _) hm).ad (fk 0) fun _ _ e => e
theorem c66 {x0 a x1 r} (k : Ow W0 2 [] [a] x0) (hm : Vm.laws_markIntS x0 x1 = some r) : Q0 66 [a, vI x1] W0 fun Wf v => v = vI r.1 ∧ Ow Wf 2 [] [a] r.2 := by
 unfold Vm.laws_markIntS at hm
 refine CallR.of Tryz.func66 rfl rfl rfl rfl (sr (Ni rfl (ssr (Ni rfl (Cw.block ?_)))))
 obtain ⟨x, y, hm⟩ := jn_e hm
 refine Cw.loop 6 17 [1, 5] (fun m l w => ∃ b d e f, CW.w f = w ∧ Le [2] W0 f ∧ l = [vI b, vI d] ∧ Ow f 2 [] [a] e ∧ Vm.laws_markIntS_l1 x m b d e = some r) _ ⟨x1, 0, x0, W0, rfl, Le.refl _ _, rfl, k, hm⟩ ?_
 rintro (_ | G) _ _ σ ⟨b, d, e, f, rfl, i, rfl, h, hm⟩
 ·cases hm
 unfold Vm.laws_markIntS_l1 at hm
 have z := i.s
 refine ssr (mi rfl (mv a rfl (Lw.ln e h.rd rfl (Lw.lt rfl (nl (cn hm (fun hm => ?_) fun hm => ?_))))))
 ·refine sk (Cw.seq (Cw.block (sr (mv a rfl (mi rfl (mi rfl ?_))))))
  obtain ⟨H, A, hm⟩ := ob hm
  refine Lw.r rfl (R.ix (α := Int) h.rd A rfl rfl rfl) ?_
  obtain ⟨B, C, hm⟩ := ob hm
  refine Lw.u (T.stS (K' := []) h (rdI _) C rfl rfl rfl) ?_
  rintro _ _ ⟨D, rfl, E, F⟩
  exact nl (rg (mi rfl (Lw.add rfl (Ni rfl (rg (mi rfl (Lw.add rfl (Ni rfl ((agm) ⟨w64 (b + 1), w64 (d + 1), B, D, rfl, (i.j E).w, rfl, F, hm⟩)))))))))
 ·refine Cw.exit ?_
  rw [y] at hm
  refine sr (mi rfl (Ni rfl ?_))
  cases hm
  exact Cw.ret (ret1 rfl (Res.mk z ⟨rfl, h⟩))
theorem p66 {x0 a x1 c0 r} (b : Ow W c0 [] [a] x0) (hJ : okJ K [c0] = true) (hm : Vm.laws_markIntS x0 x1 = some r) : Q1 66 [a, vI x1] W [c0] fun W' v => v = vI r.1 ∧ Ow W' c0 [] [a] r.2 :=
 CallR.adJ (J := [c0]) (fun c => bif Nat.beq c 0 then 0 else bif Nat.beq c 2 then c0 else 0) (c66 (b.viewJ 0 hJ) hm) fun _ _ ⟨e, d⟩ => ⟨e, Ow.backJ 0 d rfl⟩
theorem c67 {x0 r} (hm : Vm.laws_markText x0 = some r) : Q0 67 [vI x0] W0 fun Wf v => v = vS r := by
 unfold Vm.laws_markText at hm
 refine CallR.of Tryz.func67 rfl rfl rfl rfl (sr (Ns rfl (ssr (mi rfl (Lw.le rfl (nl (cn hm (fun hm => ?_) fun hm => ?_)))))))
 ·exact sr (Ns rfl (.ret (rt hm (Le.refl _ _))))
 ·refine sk (sr (Ns rfl (Cw.seq (Cw.block ?_))))
  obtain ⟨f, i, hm⟩ := jn_e hm
  refine Cw.loop 6 17 [0, 3] (fun m l w => ∃ a d b, CW.w b = w ∧ Le [] W0 b ∧ l = [vI a, vS d] ∧ Vm.laws_markText_l1 f m a d = some r) _ ⟨x0, ([] : Str), W0, rfl, Le.refl _ _, rfl, hm⟩ ?_
  rintro (_ | D) _ _ σ ⟨a, d, b, rfl, e, rfl, hm⟩
  ·cases hm
  unfold Vm.laws_markText_l1 at hm
  have k := e.o
  refine ssr (mi rfl (Lw.gt rfl (nl (cn hm (fun hm => ?_) fun hm => ?_))))
  ·refine sk (Cw.block (sr (mi rfl (Lw.r rfl (R.rem rfl rfl (by decide)) (Lw.add rfl (Lw.r rfl (R.cv8 rfl rfl) (Lw.t rfl (T.bsS (α := Byte) (xs := [(by8 (w64 (48 + (Int.tmod a 10))))]) 2 [] (W := b) [.int .u8 (UInt8.toNat (by8 (w64 (48 + (Int.tmod a 10)))) : Int)] (Each.cons ((rdY _)) Each.nil) rfl) ?_)))))))
   rintro E _ ⟨x, rfl, y, z⟩
   refine Lw.r rfl (R.cvB (xs := ([(by8 (w64 (48 + (Int.tmod a 10))))] : List Byte)) z.rd rfl (fun h => h.1)) (ms rfl ?_)
   obtain ⟨A, B, hm⟩ := ob hm
   exact Lw.r rfl (R.sad B rfl rfl) (Ns rfl (rg (mi rfl (Lw.r rfl (R.quo rfl rfl (by decide)) (Ni rfl ((agm) ⟨w64 (Int.tdiv a 10), A, x, rfl, (e.j y).w, rfl, hm⟩))))))
  ·refine Cw.exit ?_
   rw [i] at hm
   refine sr (ms rfl ?_)
   obtain ⟨F, C, hm⟩ := ob hm
   exact Lw.r rfl (R.sad C rfl rfl) (Ns rfl (.ret (rt hm k)))
theorem p67 {x0 r} (hm : Vm.laws_markText x0 = some r) : Q1 67 [vI x0] W [] fun W' v => v = vS r :=
 (c67 (W0 := W.view [] [])  hm).ad (fk 0) fun _ _ e => e
theorem c94 {x0 a x1 r} (x : Ow W0 2 [] [a] x0) (hm : Vm.laws_markStringS x0 x1 = some r) : Q0 94 [a, vI x1] W0 fun Wf v => v = vI r.1 ∧ Ow Wf 2 [] [a] r.2 := by
 unfold Vm.laws_markStringS at hm
 refine CallR.of Tryz.func94 rfl rfl rfl rfl (sr (Ni rfl (ssr (Ni rfl (Cw.block ?_)))))
 obtain ⟨y, z, hm⟩ := jn_e hm
 refine Cw.loop 6 18 [1, 5] (fun m l w => ∃ b d e f, CW.w f = w ∧ Le [2] W0 f ∧ l = [vI b, vI d] ∧ Ow f 2 [] [a] e ∧ Vm.laws_markStringS_l1 y m b d e = some r) _ ⟨x1, 0, x0, W0, rfl, Le.refl _ _, rfl, x, hm⟩ ?_
 rintro (_ | H) _ _ σ ⟨b, d, e, f, rfl, k, rfl, h, hm⟩
 ·cases hm
 unfold Vm.laws_markStringS_l1 at hm
 have A := k.s
 refine ssr (mi rfl (mv a rfl (Lw.ln e h.rd rfl (Lw.lt rfl (nl (cn hm (fun hm => ?_) fun hm => ?_))))))
 ·refine sk (Cw.seq (Cw.block (sr (mv a rfl (mi rfl (mi rfl (ca hm (fun _ => p67) fun I J hm i => ?_)))))))
  obtain ⟨K, B, hm⟩ := ob hm
  refine Lw.r rfl (R.ix (α := Str) (h.up i).rd B rfl rfl rfl) ?_
  obtain ⟨C, D, hm⟩ := ob hm
  refine Lw.u (T.stS (K' := []) (h.up i) (rdS _) D rfl rfl rfl) ?_
  rintro _ _ ⟨E, rfl, F, G⟩
  exact nl (rg (mi rfl (Lw.add rfl (Ni rfl (rg (mi rfl (Lw.add rfl (Ni rfl ((agm) ⟨w64 (b + 1), w64 (d + 1), C, E, rfl, ((k.j i).j F).w, rfl, G, hm⟩)))))))))
 ·refine Cw.exit ?_
  rw [z] at hm
  refine sr (mi rfl (Ni rfl ?_))
  cases hm
  exact Cw.ret (ret1 rfl (Res.mk A ⟨rfl, h⟩))
theorem p94 {x0 a x1 c0 r} (b : Ow W c0 [] [a] x0) (hJ : okJ K [c0] = true) (hm : Vm.laws_markStringS x0 x1 = some r) : Q1 94 [a, vI x1] W [c0] fun W' v => v = vI r.1 ∧ Ow W' c0 [] [a] r.2 :=
 CallR.adJ (J := [c0]) (fun c => bif Nat.beq c 0 then 0 else bif Nat.beq c 2 then c0 else 0) (c94 (b.viewJ 0 hJ) hm) fun _ _ ⟨e, d⟩ => ⟨e, Ow.backJ 0 d rfl⟩
theorem c68 {x0 a x1 r} (C : Ow W0 2 [] [a] x0) (hm : Vm.laws_markFileS x0 x1 = some r) : Q0 68 [a, vI x1] W0 fun Wf v => v = vI r.1 ∧ Ow Wf 2 [] [a] r.2 := by
 unfold Vm.laws_markFileS at hm
 refine CallR.of Tryz.func68 rfl rfl rfl rfl (sr (Ni rfl (ssr (Ni rfl (Cw.block ?_)))))
 obtain ⟨D, E, hm⟩ := jn_e hm
 refine Cw.loop 6 26 [1, 5] (fun m l w => ∃ h b d e, CW.w e = w ∧ Le [2, 3] W0 e ∧ l = [vI h, vI b] ∧ Ow e 2 [] [a] d ∧ Vm.laws_markFileS_l1 D m h b d = some r) _ ⟨x1, 0, x0, W0, rfl, Le.refl _ _, rfl, C, hm⟩ ?_
 rintro (_ | W) _ _ σ ⟨h, b, d, e, rfl, y, rfl, f, hm⟩
 ·cases hm
 unfold Vm.laws_markFileS_l1 at hm
 have F := y.s
 refine ssr (mi rfl (mv a rfl (Lw.ln d f.rd rfl (Lw.lt rfl (nl (cn hm (fun hm => ?_) fun hm => ?_))))))
 ·refine sk (Cw.seq (Cw.block (sr (mv a rfl (mi rfl (mi rfl (ca hm (fun _ => p67) fun X Y hm i => ?_)))))))
  obtain ⟨Z, z, hm⟩ := ob hm
  refine Lw.r rfl (R.ix (α := File) (f.up i).rd z rfl rfl rfl) (Lw.fa rfl ?_)
  obtain ⟨aa, G, hm⟩ := ob hm
  refine Lw.u (T.stH (α := File) (β := Str) (J := []) (Ow.hole (α := File) (β := Str) (jf := 0) (f.up i) z) (OwS.atm (K := []) (rdS _)) G rfl rfl rfl rfl) ?_
  rintro _ _ ⟨ac, rfl, H, k⟩
  refine nl (sr (mi rfl (Lw.add rfl (Ni rfl (rg (mv a rfl (mi rfl ?_)))))))
  obtain ⟨ae, x, hm⟩ := ob hm
  refine Lw.r rfl (R.ix (α := File) k.rd x rfl rfl rfl) (Lw.fa rfl ?_)
  obtain ⟨af, c24, r25⟩ := (File.at1 (k.rd.at_ x)).cell rfl
  refine Lw.r rfl (R.ld rfl rfl c24) (mi rfl ?_)
  obtain ⟨ah, I, L, M, gb26⟩ := Ow.lend (α := File) (β := List Str) (j := 3) (jf := 1) k x c24 rfl
  rw [← I]
  refine cr hm (fun _ => p94 (K := [0]) (c0 := 3) M rfl) ?_
  rintro N _ ai hm A ⟨rfl, O⟩
  obtain ⟨P, Q, S, U, eq33, V⟩ := gb26 _ _ A O
  obtain ⟨B, eqm33, hm⟩ := ob hm
  obtain rfl : B = U := Option.some.inj (eqm33.symm.trans eq33)
  rw [← Q]
  exact Ni rfl (rg (mi rfl (Lw.add rfl (Ni rfl ((agm) ⟨N.1, w64 (b + 1), B, P, rfl, (((((y.j i).j H).j L).j A).j S).w, rfl, V, hm⟩)))))
 ·refine Cw.exit ?_
  rw [E] at hm
  refine sr (mi rfl (Ni rfl ?_))
  cases hm
  exact Cw.ret (ret1 rfl (Res.mk F ⟨rfl, f⟩))
theorem p68 {x0 a x1 c0 r} (b : Ow W c0 [] [a] x0) (hJ : okJ K [c0] = true) (hm : Vm.laws_markFileS x0 x1 = some r) : Q1 68 [a, vI x1] W [c0] fun W' v => v = vI r.1 ∧ Ow W' c0 [] [a] r.2 :=
 CallR.adJ (J := [c0]) (fun c => bif Nat.beq c 0 then 0 else bif Nat.beq c 2 then c0 else 0) (c68 (b.viewJ 0 hJ) hm) fun _ _ ⟨e, d⟩ => ⟨e, Ow.backJ 0 d rfl⟩
theorem c31 {x0 a x1 r} (F : Ow W0 2 [] [a] x0) (hm : Vm.laws_markCommitS x0 x1 = some r) : Q0 31 [a, vI x1] W0 fun Wf v => v = vI r.1 ∧ Ow Wf 2 [] [a] r.2 := by
 unfold Vm.laws_markCommitS at hm
 refine CallR.of Tryz.func31 rfl rfl rfl rfl (sr (Ni rfl (ssr (Ni rfl (Cw.block ?_)))))
 obtain ⟨G, H, hm⟩ := jn_e hm
 refine Cw.loop 6 33 [1, 5] (fun m l w => ∃ h d e f, CW.w f = w ∧ Le [2, 3, 4] W0 f ∧ l = [vI h, vI d] ∧ Ow f 2 [] [a] e ∧ Vm.laws_markCommitS_l1 G m h d e = some r) _ ⟨x1, 0, x0, W0, rfl, Le.refl _ _, rfl, F, hm⟩ ?_
 rintro (_ | m7) _ _ σ ⟨h, d, e, f, rfl, z, rfl, b, hm⟩
 ·cases hm
 unfold Vm.laws_markCommitS_l1 at hm
 have I := z.s
 refine ssr (mi rfl (mv a rfl (Lw.ln e b.rd rfl (Lw.lt rfl (nl (cn hm (fun hm => ?_) fun hm => ?_))))))
 ·refine sk (Cw.seq (Cw.block (sr (mv a rfl (mi rfl ?_)))))
  obtain ⟨am, i, hm⟩ := ob hm
  refine Lw.r rfl (R.ix (α := Commit) b.rd i rfl rfl rfl) (Lw.fa rfl ?_)
  obtain ⟨an, c13, r14⟩ := (Commit.at0 (b.rd.at_ i)).cell rfl
  refine Lw.r rfl (R.ld rfl rfl c13) (mi rfl ?_)
  obtain ⟨ao, L, M, N, gb15⟩ := Ow.lend (α := Commit) (β := List Int) (j := 3) (jf := 0) b i c13 rfl
  rw [← L]
  refine cr hm (fun _ => p66 (K := [0]) (c0 := 3) N rfl) ?_
  rintro ap _ aq hm A ⟨rfl, O⟩
  obtain ⟨ar, P, Q, S, eq22, B⟩ := gb15 _ _ A O
  obtain ⟨U, eqm22, hm⟩ := ob hm
  obtain rfl : U = S := Option.some.inj (eqm22.symm.trans eq22)
  rw [← P]
  refine Ni rfl (sr (mv a rfl (mi rfl (mi rfl (ca hm (fun _ => p67) fun au av hm k => ?_)))))
  obtain ⟨aw, C, hm⟩ := ob hm
  refine Lw.r rfl (R.ix (α := Commit) (B.up k).rd C rfl rfl rfl) (Lw.fa rfl ?_)
  obtain ⟨ax, V, hm⟩ := ob hm
  refine Lw.u (T.stH (α := Commit) (β := Str) (J := []) (Ow.hole (α := Commit) (β := Str) (jf := 1) (B.up k) C) (OwS.atm (K := []) (rdS _)) V rfl rfl rfl rfl) ?_
  rintro _ _ ⟨ay, rfl, W, x⟩
  refine nl (sr (mi rfl (Lw.add rfl (Ni rfl (rg (mv a rfl (mi rfl ?_)))))))
  obtain ⟨az, y, hm⟩ := ob hm
  refine Lw.r rfl (R.ix (α := Commit) x.rd y rfl rfl rfl) (Lw.fa rfl ?_)
  obtain ⟨a0, c38, r39⟩ := (Commit.at2 (x.rd.at_ y)).cell rfl
  refine Lw.r rfl (R.ld rfl rfl c38) (mi rfl ?_)
  obtain ⟨a1, X, Y, Z, gb40⟩ := Ow.lend (α := Commit) (β := List File) (j := 4) (jf := 2) x y c38 rfl
  rw [← X]
  refine cr hm (fun _ => p68 (K := [0]) (c0 := 4) Z rfl) ?_
  rintro aa _ a2 hm D ⟨rfl, ac⟩
  obtain ⟨ae, af, ah, ai, eq47, aj⟩ := gb40 _ _ D ac
  obtain ⟨E, eqm47, hm⟩ := ob hm
  obtain rfl : E = ai := Option.some.inj (eqm47.symm.trans eq47)
  rw [← af]
  exact Ni rfl (rg (mi rfl (Lw.add rfl (Ni rfl ((agm) ⟨aa.1, w64 (d + 1), E, ae, rfl, ((((((((z.j M).j A).j Q).j k).j W).j Y).j D).j ah).w, rfl, aj, hm⟩)))))
 ·refine Cw.exit ?_
  rw [H] at hm
  refine sr (mi rfl (Ni rfl ?_))
  cases hm
  exact Cw.ret (ret1 rfl (Res.mk I ⟨rfl, b⟩))
theorem p31 {x0 a x1 c0 r} (b : Ow W c0 [] [a] x0) (hJ : okJ K [c0] = true) (hm : Vm.laws_markCommitS x0 x1 = some r) : Q1 31 [a, vI x1] W [c0] fun W' v => v = vI r.1 ∧ Ow W' c0 [] [a] r.2 :=
 CallR.adJ (J := [c0]) (fun c => bif Nat.beq c 0 then 0 else bif Nat.beq c 2 then c0 else 0) (c31 (b.viewJ 0 hJ) hm) fun _ _ ⟨e, d⟩ => ⟨e, Ow.backJ 0 d rfl⟩
theorem c32 {x0 a x1 r} (A : Ow W0 2 [] [a] x0) (hm : Vm.laws_markHeadS x0 x1 = some r) : Q0 32 [a, vI x1] W0 fun Wf v => v = vI r.1 ∧ Ow Wf 2 [] [a] r.2 := by
 unfold Vm.laws_markHeadS at hm
 refine CallR.of Tryz.func32 rfl rfl rfl rfl (sr (Ni rfl (ssr (Ni rfl (Cw.block ?_)))))
 obtain ⟨B, C, hm⟩ := jn_e hm
 refine Cw.loop 6 26 [1, 5] (fun m l w => ∃ b d e f, CW.w f = w ∧ Le [2] W0 f ∧ l = [vI b, vI d] ∧ Ow f 2 [] [a] e ∧ Vm.laws_markHeadS_l1 B m b d e = some r) _ ⟨x1, 0, x0, W0, rfl, Le.refl _ _, rfl, A, hm⟩ ?_
 rintro (_ | N) _ _ σ ⟨b, d, e, f, rfl, k, rfl, h, hm⟩
 ·cases hm
 unfold Vm.laws_markHeadS_l1 at hm
 have D := k.s
 refine ssr (mi rfl (mv a rfl (Lw.ln e h.rd rfl (Lw.lt rfl (nl (cn hm (fun hm => ?_) fun hm => ?_))))))
 ·refine sk (Cw.seq (Cw.block (sr (mv a rfl (mi rfl (mi rfl (ca hm (fun _ => p67) fun O P hm i => ?_)))))))
  obtain ⟨Q, x, hm⟩ := ob hm
  refine Lw.r rfl (R.ix (α := Head) (h.up i).rd x rfl rfl rfl) (Lw.fa rfl ?_)
  obtain ⟨S, E, hm⟩ := ob hm
  refine Lw.u (T.stH (α := Head) (β := Str) (J := []) (Ow.hole (α := Head) (β := Str) (jf := 0) (h.up i) x) (OwS.atm (K := []) (rdS _)) E rfl rfl rfl rfl) ?_
  rintro _ _ ⟨U, rfl, F, y⟩
  refine nl (sr (mi rfl (Lw.add rfl (Ni rfl (sr (mv a rfl (mi rfl (mi rfl ?_))))))))
  obtain ⟨V, z, hm⟩ := ob hm
  refine Lw.r rfl (R.ix (α := Head) y.rd z rfl rfl rfl) (Lw.fa rfl ?_)
  obtain ⟨G, H, hm⟩ := ob hm
  refine Lw.u (T.stH (α := Head) (β := Int) (J := []) (Ow.hole (α := Head) (β := Int) (jf := 1) y z) (OwS.atm (K := []) (rdI _)) H rfl rfl rfl rfl) ?_
  rintro _ _ ⟨I, rfl, L, M⟩
  exact nl (rg (mi rfl (Lw.add rfl (Ni rfl (rg (mi rfl (Lw.add rfl (Ni rfl ((agm) ⟨w64 ((w64 (b + 1)) + 1), w64 (d + 1), G, I, rfl, (((k.j i).j F).j L).w, rfl, M, hm⟩)))))))))
 ·refine Cw.exit ?_
  rw [C] at hm
  refine sr (mi rfl (Ni rfl ?_))
  cases hm
  exact Cw.ret (ret1 rfl (Res.mk D ⟨rfl, h⟩))
theorem p32 {x0 a x1 c0 r} (b : Ow W c0 [] [a] x0) (hJ : okJ K [c0] = true) (hm : Vm.laws_markHeadS x0 x1 = some r) : Q1 32 [a, vI x1] W [c0] fun W' v => v = vI r.1 ∧ Ow W' c0 [] [a] r.2 :=
 CallR.adJ (J := [c0]) (fun c => bif Nat.beq c 0 then 0 else bif Nat.beq c 2 then c0 else 0) (c32 (b.viewJ 0 hJ) hm) fun _ _ ⟨e, d⟩ => ⟨e, Ow.backJ 0 d rfl⟩
end Go.Sx
