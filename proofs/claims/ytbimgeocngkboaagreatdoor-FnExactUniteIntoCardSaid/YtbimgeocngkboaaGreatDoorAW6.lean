/- Walks: each function answers as its model, printed by a program of ours. Conditions: the arguments read as they are given. -/
import Derived.Test.YtbimgeocngkboaaGreatDoorATs
import Derived.Test.YtbimgeocngkboaaGreatDoorAM0
import Derived.Test.YtbimgeocngkboaaGreatDoorAW5
namespace Go.Sx
open Go Go.Proofs Go.Vm Rp
set_option linter.unusedVariables false
set_option linter.unusedSimpArgs false
variable {W W0 : CW} {K : List Nat}
theorem c64 {x0 f h x1 i k r} (C : Rd W0 [0] [f, vS x0.Who, h] x0) (D : Rd W0 [0] [i, vS x1.Who, k] x1) (hm : Vm.laws_eqCommit x0 x1 = some r) : Q0 64 [.agg [f, vS x0.Who, h].toArray, .agg [i, vS x1.Who, k].toArray] W0 fun Wf v => v = vB r := by
 unfold Vm.laws_eqCommit at hm
 obtain ⟨L, M, x, E, F⟩ := Commit.split C
 simp only [List.cons.injEq, and_true, true_and] at x
 obtain ⟨rfl, rfl⟩ := x
 obtain ⟨N, O, y, G, H⟩ := Commit.split D
 simp only [List.cons.injEq, and_true, true_and] at y
 obtain ⟨rfl, rfl⟩ := y
 refine CallR.of Tryz.func64 rfl rfl rfl rfl (sr (bo 2 rfl fun P Q I z => ?_))
 have J := I.o
 refine bo 3 rfl fun S T b d => ?_
 have e := J.n b
 refine Nb rfl (ssr (fl (z.up b) rfl (fl d rfl (ca hm (fun _ => p92 (E.ul e) (G.ul e)) fun U V hm l10 => ?_))))
 have a := e.n l10
 have A := (z.up b).up l10
 refine Lw.r rfl (R.not rfl) (nl (cn hm (fun hm => ?_) fun hm => ?_))
 ·exact sr (Nb rfl (.ret (rt hm a)))
 ·refine sk (ssr (fl A rfl (fl (d.up l10) rfl (Lw.sne rfl (nl (cn hm (fun hm => ?_) fun hm => ?_))))))
  ·exact sr (Nb rfl (.ret (rt hm a)))
  ·refine sk (ssr (fl A rfl (fl (d.up l10) rfl (ca hm (fun _ => p93 (F.ul a) (H.ul a)) fun W X hm K => ?_))))
   have B := a.n K
   refine Lw.r rfl (R.not rfl) (nl (cn hm (fun hm => ?_) fun hm => ?_))
   ·exact sr (Nb rfl (.ret (rt hm B)))
   ·exact sk (sr (Nb rfl (.ret (rt hm B))))
theorem p64 {x0 a b x1 d f r} (h : Rd W K [a, vS x0.Who, b] x0) (i : Rd W K [d, vS x1.Who, f] x1) (hm : Vm.laws_eqCommit x0 x1 = some r) : Q1 64 [.agg [a, vS x0.Who, b].toArray, .agg [d, vS x1.Who, f].toArray] W [] fun W' v => v = vB r :=
 (c64 (h.view _) (i.view _) hm).ad (fk 0) fun _ _ e => e
theorem c29 {x0 b x1 e r} (d : Rd W0 [0] [b] x0) (f : Rd W0 [0] [e] x1) (hm : Vm.laws_eqCommitS x0 x1 = some r) : Q0 29 [b, e] W0 fun Wf v => v = vB r := by
 unfold Vm.laws_eqCommitS at hm
 refine CallR.of Tryz.func29 rfl rfl rfl rfl (sr (Nb rfl (ssr (mv b rfl (Lw.ln x0 d rfl (mv e rfl (Lw.ln x1 f rfl (Lw.ne rfl (nl (cn hm (fun hm => ?_) fun hm => ?_))))))))))
 ·exact sr (Nb rfl (.ret (rt hm (Le.refl _ _))))
 ·refine sk (ssr (Ni rfl (Cw.block ?_)))
  obtain ⟨E, F, hm⟩ := jn_e hm
  refine Cw.loop 11 26 [4, 5] (fun m l w => ∃ h i k, CW.w k = w ∧ Le [] W0 k ∧ l = [vB h, vI i] ∧ Vm.laws_eqCommitS_l1 x0 x1 E m h i = some r) _ ⟨false, 0, W0, rfl, Le.refl _ _, rfl, hm⟩ ?_
  rintro (_ | J) _ _ σ ⟨h, i, k, rfl, C, rfl, hm⟩
  ·cases hm
  unfold Vm.laws_eqCommitS_l1 at hm
  have x := C.o
  refine ssr (mi rfl (mv b rfl (Lw.ln x0 (d.ul x) rfl (Lw.lt rfl (nl (cn hm (fun hm => ?_) fun hm => ?_))))))
  ·refine sk (Cw.seq (Cw.block (Cw.seq (Cw.draw [] [(0, 0), (1, 0), (2, 0), (3, 1), (4, 0), (5, 0), (6, 0), (7, 1), (8, 3), (9, 0)] mixed (by kernel_rfl) fun L l10 => ?_))))
   have a := x.n l10
   refine Dv b rfl (Di rfl ?_)
   obtain ⟨y, z, hm⟩ := ob hm
   refine Mw.p rfl rfl (fun _ => R.ix (α := Commit) (d.ul a) z rfl rfl rfl) ?_
   obtain ⟨x15, c16, _, r17⟩ := ((d.ul a).at_ z).cells
   obtain ⟨M, N, rfl, r19, r21⟩ := Commit.split r17
   refine Mw.q rfl rfl (fun _ c => R.lda (cl_cells ((d.ul a).at_ z).1 rfl c16 c) rfl rfl) (Dv e rfl (Di rfl ?_))
   obtain ⟨A, B, hm⟩ := ob hm
   refine Mw.p rfl rfl (fun _ => R.ix (α := Commit) (f.ul a) B rfl rfl rfl) ?_
   obtain ⟨x25, c26, _, r27⟩ := ((f.ul a).at_ B).cells
   obtain ⟨O, P, rfl, r29, r31⟩ := Commit.split r27
   refine Mw.q rfl rfl (fun _ c => R.lda (cl_cells ((f.ul a).at_ B).1 rfl c26 c) rfl rfl) ?_
   obtain ⟨Q, G, hm⟩ := ob hm
   refine Mw.l rfl rfl (T.call rfl (p64  (Commit.rd (K := [0]) y.Parents y.Who y.Tree r19 r21) (Commit.rd (K := [0]) A.Parents A.Who A.Tree r29 r31) G)) ?_
   rintro _ _ ⟨H, rfl, D, rfl⟩
   have I := a.n D
   refine Mw.p rfl rfl (fun _ => R.not rfl) (Mw.nil (cn hm (fun hm => ?_) fun hm => ?_))
   ·exact sr (Nb rfl (.ret (rt hm I)))
   ·exact sk (rg (mi rfl (Lw.add rfl (Ni rfl ((agm) ⟨h, w64 (i + 1), H, rfl, ((C.j l10).j D).w, rfl, hm⟩)))))
  ·refine Cw.exit ?_
   rw [F] at hm
   exact sr (Nb rfl (.ret (rt hm x)))
theorem p29 {x0 a x1 b r} (d : Rd W K [a] x0) (f : Rd W K [b] x1) (hm : Vm.laws_eqCommitS x0 x1 = some r) : Q1 29 [a, b] W [] fun W' v => v = vB r :=
 (c29 (d.view _) (f.view _) hm).ad (fk 0) fun _ _ e => e
theorem c65 {x0 x1 r} (i : Rd W0 [0] [vS x0.Name, vI x0.At] x0) (k : Rd W0 [0] [vS x1.Name, vI x1.At] x1) (hm : Vm.laws_eqHead x0 x1 = some r) : Q0 65 [.agg [vS x0.Name, vI x0.At].toArray, .agg [vS x1.Name, vI x1.At].toArray] W0 fun Wf v => v = vB r := by
 unfold Vm.laws_eqHead at hm
 refine CallR.of Tryz.func65 rfl rfl rfl rfl (sr (bo 2 rfl fun x y f d => ?_))
 have h := f.o
 refine bo 3 rfl fun z A a e => ?_
 have b := h.n a
 refine Nb rfl (ssr (fl (d.up a) rfl (fl e rfl (Lw.sne rfl (nl (cn hm (fun hm => ?_) fun hm => ?_))))))
 ·exact sr (Nb rfl (.ret (rt hm b)))
 ·refine sk (ssr (fl (d.up a) rfl (fl e rfl (Lw.ne rfl (nl (cn hm (fun hm => ?_) fun hm => ?_))))))
  ·exact sr (Nb rfl (.ret (rt hm b)))
  ·exact sk (sr (Nb rfl (.ret (rt hm b))))
theorem p65 {x0 x1 r} (a : Rd W K [vS x0.Name, vI x0.At] x0) (b : Rd W K [vS x1.Name, vI x1.At] x1) (hm : Vm.laws_eqHead x0 x1 = some r) : Q1 65 [.agg [vS x0.Name, vI x0.At].toArray, .agg [vS x1.Name, vI x1.At].toArray] W [] fun W' v => v = vB r :=
 (c65 (a.view _) (b.view _) hm).ad (fk 0) fun _ _ e => e
theorem c30 {x0 b x1 e r} (d : Rd W0 [0] [b] x0) (f : Rd W0 [0] [e] x1) (hm : Vm.laws_eqHeadS x0 x1 = some r) : Q0 30 [b, e] W0 fun Wf v => v = vB r := by
 unfold Vm.laws_eqHeadS at hm
 refine CallR.of Tryz.func30 rfl rfl rfl rfl (sr (Nb rfl (ssr (mv b rfl (Lw.ln x0 d rfl (mv e rfl (Lw.ln x1 f rfl (Lw.ne rfl (nl (cn hm (fun hm => ?_) fun hm => ?_))))))))))
 ·exact sr (Nb rfl (.ret (rt hm (Le.refl _ _))))
 ·refine sk (ssr (Ni rfl (Cw.block ?_)))
  obtain ⟨E, F, hm⟩ := jn_e hm
  refine Cw.loop 11 26 [4, 5] (fun m l w => ∃ h i k, CW.w k = w ∧ Le [] W0 k ∧ l = [vB h, vI i] ∧ Vm.laws_eqHeadS_l1 x0 x1 E m h i = some r) _ ⟨false, 0, W0, rfl, Le.refl _ _, rfl, hm⟩ ?_
  rintro (_ | J) _ _ σ ⟨h, i, k, rfl, A, rfl, hm⟩
  ·cases hm
  unfold Vm.laws_eqHeadS_l1 at hm
  have x := A.o
  refine ssr (mi rfl (mv b rfl (Lw.ln x0 (d.ul x) rfl (Lw.lt rfl (nl (cn hm (fun hm => ?_) fun hm => ?_))))))
  ·refine sk (Cw.seq (Cw.block (Cw.seq (Cw.draw [] [(0, 0), (1, 0), (2, 0), (3, 1), (4, 0), (5, 0), (6, 0), (7, 1), (8, 3), (9, 0)] mixed (by kernel_rfl) fun L l10 => ?_))))
   have a := x.n l10
   refine Dv b rfl (Di rfl ?_)
   obtain ⟨B, y, hm⟩ := ob hm
   refine Mw.p rfl rfl (fun _ => R.ix (α := Head) (d.ul a) y rfl rfl rfl) ?_
   obtain ⟨x15, c16, _, r17⟩ := ((d.ul a).at_ y).cells
   obtain rfl := Head.split r17
   refine Mw.q rfl rfl (fun _ c => R.lda (cl_cells ((d.ul a).at_ y).1 rfl c16 c) rfl rfl) (Dv e rfl (Di rfl ?_))
   obtain ⟨C, z, hm⟩ := ob hm
   refine Mw.p rfl rfl (fun _ => R.ix (α := Head) (f.ul a) z rfl rfl rfl) ?_
   obtain ⟨x21, c22, _, r23⟩ := ((f.ul a).at_ z).cells
   obtain rfl := Head.split r23
   refine Mw.q rfl rfl (fun _ c => R.lda (cl_cells ((f.ul a).at_ z).1 rfl c22 c) rfl rfl) ?_
   obtain ⟨M, G, hm⟩ := ob hm
   refine Mw.l rfl rfl (T.call rfl (p65  (Head.rd (K := [0]) B.Name B.At ) (Head.rd (K := [0]) C.Name C.At ) G)) ?_
   rintro _ _ ⟨H, rfl, D, rfl⟩
   have I := a.n D
   refine Mw.p rfl rfl (fun _ => R.not rfl) (Mw.nil (cn hm (fun hm => ?_) fun hm => ?_))
   ·exact sr (Nb rfl (.ret (rt hm I)))
   ·exact sk (rg (mi rfl (Lw.add rfl (Ni rfl ((agm) ⟨h, w64 (i + 1), H, rfl, ((A.j l10).j D).w, rfl, hm⟩)))))
  ·refine Cw.exit ?_
   rw [F] at hm
   exact sr (Nb rfl (.ret (rt hm x)))
theorem p30 {x0 a x1 b r} (d : Rd W K [a] x0) (f : Rd W K [b] x1) (hm : Vm.laws_eqHeadS x0 x1 = some r) : Q1 30 [a, b] W [] fun W' v => v = vB r :=
 (c30 (d.view _) (f.view _) hm).ad (fk 0) fun _ _ e => e
theorem c10 {x0 e f x1 h i r} (B : Rd W0 [0] [e, f] x0) (C : Rd W0 [0] [h, i] x1) (hm : Vm.laws_eqRepo x0 x1 = some r) : Q0 10 [.agg [e, f].toArray, .agg [h, i].toArray] W0 fun Wf v => v = vB r := by
 unfold Vm.laws_eqRepo at hm
 obtain ⟨K, L, k, D, E⟩ := Repo.split B
 simp only [List.cons.injEq, and_true, true_and] at k
 obtain ⟨rfl, rfl⟩ := k
 obtain ⟨M, N, x, F, G⟩ := Repo.split C
 simp only [List.cons.injEq, and_true, true_and] at x
 obtain ⟨rfl, rfl⟩ := x
 refine CallR.of Tryz.func10 rfl rfl rfl rfl (sr (bo 2 rfl fun O P H y => ?_))
 have I := H.o
 refine bo 3 rfl fun Q S b z => ?_
 have d := I.n b
 refine Nb rfl (ssr (fl (y.up b) rfl (fl z rfl (ca hm (fun _ => p29 (D.ul d) (F.ul d)) fun T U hm l10 => ?_))))
 have a := d.n l10
 refine Lw.r rfl (R.not rfl) (nl (cn hm (fun hm => ?_) fun hm => ?_))
 ·exact sr (Nb rfl (.ret (rt hm a)))
 ·refine sk (ssr (fl ((y.up b).up l10) rfl (fl (z.up l10) rfl (ca hm (fun _ => p30 (E.ul a) (G.ul a)) fun V W hm J => ?_))))
  have A := a.n J
  refine Lw.r rfl (R.not rfl) (nl (cn hm (fun hm => ?_) fun hm => ?_))
  ·exact sr (Nb rfl (.ret (rt hm A)))
  ·exact sk (sr (Nb rfl (.ret (rt hm A))))
theorem p10 {x0 a b x1 d f r} (h : Rd W K [a, b] x0) (i : Rd W K [d, f] x1) (hm : Vm.laws_eqRepo x0 x1 = some r) : Q1 10 [.agg [a, b].toArray, .agg [d, f].toArray] W [] fun W' v => v = vB r :=
 (c10 (h.view _) (i.view _) hm).ad (fk 0) fun _ _ e => e
theorem c66 {x0 a x1 r} (k : Ow W0 2 [] [a] x0) (hm : Vm.laws_markIntS x0 x1 = some r) : Q0 66 [a, vI x1] W0 fun Wf v => v = vI r.1 ∧ Ow Wf 2 [] [a] r.2 := by
 unfold Vm.laws_markIntS at hm
 refine CallR.of Tryz.func66 rfl rfl rfl rfl (sr (Ni rfl (ssr (Ni rfl (Cw.block ?_)))))
 obtain ⟨x, y, hm⟩ := jn_e hm
 refine Cw.loop 6 17 [1, 5] (fun m l w => ∃ b d e f, CW.w f = w ∧ Le [2] W0 f ∧ l = [vI b, vI d] ∧ Ow f 2 [] [a] e ∧ Vm.laws_markIntS_l1 x m b d e = some r) _ ⟨x1, 0, x0, W0, rfl, Le.refl _ _, rfl, k, hm⟩ ?_
 rintro (_ | G) _ _ σ ⟨b, d, e, f, rfl, i, rfl, h, hm⟩
 ·cases hm
 unfold Vm.laws_markIntS_l1 at hm
 have z := i.s
 refine ssr (mi rfl (mv a rfl (Lw.ln e h.rd rfl (Lw.lt rfl (nl (cn hm (fun hm => ?_) fun hm => ?_))))))
 ·refine sk (Cw.seq (Cw.block (sr (mv a rfl (mi rfl (mi rfl ?_))))))
  obtain ⟨H, A, hm⟩ := ob hm
  refine Lw.r rfl (R.ix (α := Int) h.rd A rfl rfl rfl) ?_
  obtain ⟨B, C, hm⟩ := ob hm
  refine Lw.u (T.stS (K' := []) h (rdI _) C rfl rfl rfl) ?_
  rintro _ _ ⟨D, rfl, E, F⟩
  exact nl (rg (mi rfl (Lw.add rfl (Ni rfl (rg (mi rfl (Lw.add rfl (Ni rfl ((agm) ⟨w64 (b + 1), w64 (d + 1), B, D, rfl, (i.j E).w, rfl, F, hm⟩)))))))))
 ·refine Cw.exit ?_
  rw [y] at hm
  refine sr (mi rfl (Ni rfl ?_))
  cases hm
  exact Cw.ret (ret1 rfl (Res.mk z ⟨rfl, h⟩))
theorem p66 {x0 a x1 c0 r} (b : Ow W c0 [] [a] x0) (hJ : okJ K [c0] = true) (hm : Vm.laws_markIntS x0 x1 = some r) : Q1 66 [a, vI x1] W [c0] fun W' v => v = vI r.1 ∧ Ow W' c0 [] [a] r.2 :=
 CallR.adJ (J := [c0]) (fun c => bif Nat.beq c 0 then 0 else bif Nat.beq c 2 then c0 else 0) (c66 (b.viewJ 0 hJ) hm) fun _ _ ⟨e, d⟩ => ⟨e, Ow.backJ 0 d rfl⟩
theorem c67 {x0 r} (hm : Vm.laws_markText x0 = some r) : Q0 67 [vI x0] W0 fun Wf v => v = vS r := by
 unfold Vm.laws_markText at hm
 refine CallR.of Tryz.func67 rfl rfl rfl rfl (sr (Ns rfl (ssr (mi rfl (Lw.le rfl (nl (cn hm (fun hm => ?_) fun hm => ?_)))))))
 ·exact sr (Ns rfl (.ret (rt hm (Le.refl _ _))))
 ·refine sk (sr (Ns rfl (Cw.seq (Cw.block ?_))))
  obtain ⟨f, i, hm⟩ := jn_e hm
  refine Cw.loop 6 17 [0, 3] (fun m l w => ∃ a d b, CW.w b = w ∧ Le [] W0 b ∧ l = [vI a, vS d] ∧ Vm.laws_markText_l1 f m a d = some r) _ ⟨x0, ([] : Str), W0, rfl, Le.refl _ _, rfl, hm⟩ ?_
  rintro (_ | D) _ _ σ ⟨a, d, b, rfl, e, rfl, hm⟩
  ·cases hm
  unfold Vm.laws_markText_l1 at hm
  have k := e.o
  refine ssr (mi rfl (Lw.gt rfl (nl (cn hm (fun hm => ?_) fun hm => ?_))))
  ·refine sk (Cw.block (sr (mi rfl (Lw.r rfl (R.rem rfl rfl (by decide)) (Lw.add rfl (Lw.r rfl (R.cv8 rfl rfl) (Lw.t rfl (T.bsS (α := Byte) (xs := [(by8 (w64 (48 + (Int.tmod a 10))))]) 2 [] (W := b) [.int .u8 (UInt8.toNat (by8 (w64 (48 + (Int.tmod a 10)))) : Int)] (Each.cons ((rdY _)) Each.nil) rfl) ?_)))))))
   rintro E _ ⟨x, rfl, y, z⟩
   refine Lw.r rfl (R.cvB (xs := ([(by8 (w64 (48 + (Int.tmod a 10))))] : List Byte)) z.rd rfl (fun h => h.1)) (ms rfl ?_)
   obtain ⟨A, B, hm⟩ := ob hm
   exact Lw.r rfl (R.sad B rfl rfl) (Ns rfl (rg (mi rfl (Lw.r rfl (R.quo rfl rfl (by decide)) (Ni rfl ((agm) ⟨w64 (Int.tdiv a 10), A, x, rfl, (e.j y).w, rfl, hm⟩))))))
  ·refine Cw.exit ?_
   rw [i] at hm
   refine sr (ms rfl ?_)
   obtain ⟨F, C, hm⟩ := ob hm
   exact Lw.r rfl (R.sad C rfl rfl) (Ns rfl (.ret (rt hm k)))
theorem p67 {x0 r} (hm : Vm.laws_markText x0 = some r) : Q1 67 [vI x0] W [] fun W' v => v = vS r :=
 (c67 (W0 := W.view [] [])  hm).ad (fk 0) fun _ _ e => e
theorem c94 {x0 a x1 r} (x : Ow W0 2 [] [a] x0) (hm : Vm.laws_markStringS x0 x1 = some r) : Q0 94 [a, vI x1] W0 fun Wf v => v = vI r.1 ∧ Ow Wf 2 [] [a] r.2 := by
 unfold Vm.laws_markStringS at hm
 refine CallR.of Tryz.func94 rfl rfl rfl rfl (sr (Ni rfl (ssr (Ni rfl (Cw.block ?_)))))
 obtain ⟨y, z, hm⟩ := jn_e hm
 refine Cw.loop 6 18 [1, 5] (fun m l w => ∃ b d e f, CW.w f = w ∧ Le [2] W0 f ∧ l = [vI b, vI d] ∧ Ow f 2 [] [a] e ∧ Vm.laws_markStringS_l1 y m b d e = some r) _ ⟨x1, 0, x0, W0, rfl, Le.refl _ _, rfl, x, hm⟩ ?_
 rintro (_ | H) _ _ σ ⟨b, d, e, f, rfl, k, rfl, h, hm⟩
 ·cases hm
 unfold Vm.laws_markStringS_l1 at hm
 have A := k.s
 refine ssr (mi rfl (mv a rfl (Lw.ln e h.rd rfl (Lw.lt rfl (nl (cn hm (fun hm => ?_) fun hm => ?_))))))
 ·refine sk (Cw.seq (Cw.block (sr (mv a rfl (mi rfl (mi rfl (ca hm (fun _ => p67) fun I J hm i => ?_)))))))
  obtain ⟨K, B, hm⟩ := ob hm
  refine Lw.r rfl (R.ix (α := Str) (h.up i).rd B rfl rfl rfl) ?_
  obtain ⟨C, D, hm⟩ := ob hm
  refine Lw.u (T.stS (K' := []) (h.up i) (rdS _) D rfl rfl rfl) ?_
  rintro _ _ ⟨E, rfl, F, G⟩
  exact nl (rg (mi rfl (Lw.add rfl (Ni rfl (rg (mi rfl (Lw.add rfl (Ni rfl ((agm) ⟨w64 (b + 1), w64 (d + 1), C, E, rfl, ((k.j i).j F).w, rfl, G, hm⟩)))))))))
 ·refine Cw.exit ?_
  rw [z] at hm
  refine sr (mi rfl (Ni rfl ?_))
  cases hm
  exact Cw.ret (ret1 rfl (Res.mk A ⟨rfl, h⟩))
theorem p94 {x0 a x1 c0 r} (b : Ow W c0 [] [a] x0) (hJ : okJ K [c0] = true) (hm : Vm.laws_markStringS x0 x1 = some r) : Q1 94 [a, vI x1] W [c0] fun W' v => v = vI r.1 ∧ Ow W' c0 [] [a] r.2 :=
 CallR.adJ (J := [c0]) (fun c => bif Nat.beq c 0 then 0 else bif Nat.beq c 2 then c0 else 0) (c94 (b.viewJ 0 hJ) hm) fun _ _ ⟨e, d⟩ => ⟨e, Ow.backJ 0 d rfl⟩
theorem c68 {x0 a x1 r} (C : Ow W0 2 [] [a] x0) (hm : Vm.laws_markFileS x0 x1 = some r) : Q0 68 [a, vI x1] W0 fun Wf v => v = vI r.1 ∧ Ow Wf 2 [] [a] r.2 := by
 unfold Vm.laws_markFileS at hm
 refine CallR.of Tryz.func68 rfl rfl rfl rfl (sr (Ni rfl (ssr (Ni rfl (Cw.block ?_)))))
 obtain ⟨D, E, hm⟩ := jn_e hm
 refine Cw.loop 6 26 [1, 5] (fun m l w => ∃ h b d e, CW.w e = w ∧ Le [2, 3] W0 e ∧ l = [vI h, vI b] ∧ Ow e 2 [] [a] d ∧ Vm.laws_markFileS_l1 D m h b d = some r) _ ⟨x1, 0, x0, W0, rfl, Le.refl _ _, rfl, C, hm⟩ ?_
 rintro (_ | W) _ _ σ ⟨h, b, d, e, rfl, y, rfl, f, hm⟩
 ·cases hm
 unfold Vm.laws_markFileS_l1 at hm
 have F := y.s
 refine ssr (mi rfl (mv a rfl (Lw.ln d f.rd rfl (Lw.lt rfl (nl (cn hm (fun hm => ?_) fun hm => ?_))))))
 ·refine sk (Cw.seq (Cw.block (sr (mv a rfl (mi rfl (mi rfl (ca hm (fun _ => p67) fun X Y hm i => ?_)))))))
  obtain ⟨Z, z, hm⟩ := ob hm
  refine Lw.r rfl (R.ix (α := File) (f.up i).rd z rfl rfl rfl) (Lw.fa rfl ?_)
  obtain ⟨aa, G, hm⟩ := ob hm
  refine Lw.u (T.stH (α := File) (β := Str) (J := []) (Ow.hole (α := File) (β := Str) (jf := 0) (f.up i) z) (OwS.atm (K := []) (rdS _)) G rfl rfl rfl rfl) ?_
  rintro _ _ ⟨ac, rfl, H, k⟩
  refine nl (sr (mi rfl (Lw.add rfl (Ni rfl (rg (mv a rfl (mi rfl ?_)))))))
  obtain ⟨ae, x, hm⟩ := ob hm
  refine Lw.r rfl (R.ix (α := File) k.rd x rfl rfl rfl) (Lw.fa rfl ?_)
  obtain ⟨af, c24, r25⟩ := (File.at1 (k.rd.at_ x)).cell rfl
  refine Lw.r rfl (R.ld rfl rfl c24) (mi rfl ?_)
  obtain ⟨ah, I, L, M, gb26⟩ := Ow.lend (α := File) (β := List Str) (j := 3) (jf := 1) k x c24 rfl
  rw [← I]
  refine cr hm (fun _ => p94 (K := [0]) (c0 := 3) M rfl) ?_
  rintro N _ ai hm A ⟨rfl, O⟩
  obtain ⟨P, Q, S, U, eq33, V⟩ := gb26 _ _ A O
  obtain ⟨B, eqm33, hm⟩ := ob hm
  obtain rfl : B = U := Option.some.inj (eqm33.symm.trans eq33)
  rw [← Q]
  exact Ni rfl (rg (mi rfl (Lw.add rfl (Ni rfl ((agm) ⟨N.1, w64 (b + 1), B, P, rfl, (((((y.j i).j H).j L).j A).j S).w, rfl, V, hm⟩)))))
 ·refine Cw.exit ?_
  rw [E] at hm
  refine sr (mi rfl (Ni rfl ?_))
  cases hm
  exact Cw.ret (ret1 rfl (Res.mk F ⟨rfl, f⟩))
theorem p68 {x0 a x1 c0 r} (b : Ow W c0 [] [a] x0) (hJ : okJ K [c0] = true) (hm : Vm.laws_markFileS x0 x1 = some r) : Q1 68 [a, vI x1] W [c0] fun W' v => v = vI r.1 ∧ Ow W' c0 [] [a] r.2 :=
 CallR.adJ (J := [c0]) (fun c => bif Nat.beq c 0 then 0 else bif Nat.beq c 2 then c0 else 0) (c68 (b.viewJ 0 hJ) hm) fun _ _ ⟨e, d⟩ => ⟨e, Ow.backJ 0 d rfl⟩
theorem c31 {x0 a x1 r} (F : Ow W0 2 [] [a] x0) (hm : Vm.laws_markCommitS x0 x1 = some r) : Q0 31 [a, vI x1] W0 fun Wf v => v = vI r.1 ∧ Ow Wf 2 [] [a] r.2 := by
 unfold Vm.laws_markCommitS at hm
 refine CallR.of Tryz.func31 rfl rfl rfl rfl (sr (Ni rfl (ssr (Ni rfl (Cw.block ?_)))))
 obtain ⟨G, H, hm⟩ := jn_e hm
 refine Cw.loop 6 33 [1, 5] (fun m l w => ∃ h d e f, CW.w f = w ∧ Le [2, 3, 4] W0 f ∧ l = [vI h, vI d] ∧ Ow f 2 [] [a] e ∧ Vm.laws_markCommitS_l1 G m h d e = some r) _ ⟨x1, 0, x0, W0, rfl, Le.refl _ _, rfl, F, hm⟩ ?_
 rintro (_ | m7) _ _ σ ⟨h, d, e, f, rfl, z, rfl, b, hm⟩
 ·cases hm
 unfold Vm.laws_markCommitS_l1 at hm
 have I := z.s
 refine ssr (mi rfl (mv a rfl (Lw.ln e b.rd rfl (Lw.lt rfl (nl (cn hm (fun hm => ?_) fun hm => ?_))))))
 ·refine sk (Cw.seq (Cw.block (sr (mv a rfl (mi rfl ?_)))))
  obtain ⟨am, i, hm⟩ := ob hm
  refine Lw.r rfl (R.ix (α := Commit) b.rd i rfl rfl rfl) (Lw.fa rfl ?_)
  obtain ⟨an, c13, r14⟩ := (Commit.at0 (b.rd.at_ i)).cell rfl
  refine Lw.r rfl (R.ld rfl rfl c13) (mi rfl ?_)
  obtain ⟨ao, L, M, N, gb15⟩ := Ow.lend (α := Commit) (β := List Int) (j := 3) (jf := 0) b i c13 rfl
  rw [← L]
  refine cr hm (fun _ => p66 (K := [0]) (c0 := 3) N rfl) ?_
  rintro ap _ aq hm A ⟨rfl, O⟩
  obtain ⟨ar, P, Q, S, eq22, B⟩ := gb15 _ _ A O
  obtain ⟨U, eqm22, hm⟩ := ob hm
  obtain rfl : U = S := Option.some.inj (eqm22.symm.trans eq22)
  rw [← P]
  refine Ni rfl (sr (mv a rfl (mi rfl (mi rfl (ca hm (fun _ => p67) fun au av hm k => ?_)))))
  obtain ⟨aw, C, hm⟩ := ob hm
  refine Lw.r rfl (R.ix (α := Commit) (B.up k).rd C rfl rfl rfl) (Lw.fa rfl ?_)
  obtain ⟨ax, V, hm⟩ := ob hm
  refine Lw.u (T.stH (α := Commit) (β := Str) (J := []) (Ow.hole (α := Commit) (β := Str) (jf := 1) (B.up k) C) (OwS.atm (K := []) (rdS _)) V rfl rfl rfl rfl) ?_
  rintro _ _ ⟨ay, rfl, W, x⟩
  refine nl (sr (mi rfl (Lw.add rfl (Ni rfl (rg (mv a rfl (mi rfl ?_)))))))
  obtain ⟨az, y, hm⟩ := ob hm
  refine Lw.r rfl (R.ix (α := Commit) x.rd y rfl rfl rfl) (Lw.fa rfl ?_)
  obtain ⟨a0, c38, r39⟩ := (Commit.at2 (x.rd.at_ y)).cell rfl
  refine Lw.r rfl (R.ld rfl rfl c38) (mi rfl ?_)
  obtain ⟨a1, X, Y, Z, gb40⟩ := Ow.lend (α := Commit) (β := List File) (j := 4) (jf := 2) x y c38 rfl
  rw [← X]
  refine cr hm (fun _ => p68 (K := [0]) (c0 := 4) Z rfl) ?_
  rintro aa _ a2 hm D ⟨rfl, ac⟩
  obtain ⟨ae, af, ah, ai, eq47, aj⟩ := gb40 _ _ D ac
  obtain ⟨E, eqm47, hm⟩ := ob hm
  obtain rfl : E = ai := Option.some.inj (eqm47.symm.trans eq47)
  rw [← af]
  exact Ni rfl (rg (mi rfl (Lw.add rfl (Ni rfl ((agm) ⟨aa.1, w64 (d + 1), E, ae, rfl, ((((((((z.j M).j A).j Q).j k).j W).j Y).j D).j ah).w, rfl, aj, hm⟩)))))
 ·refine Cw.exit ?_
  rw [H] at hm
  refine sr (mi rfl (Ni rfl ?_))
  cases hm
  exact Cw.ret (ret1 rfl (Res.mk I ⟨rfl, b⟩))
theorem p31 {x0 a x1 c0 r} (b : Ow W c0 [] [a] x0) (hJ : okJ K [c0] = true) (hm : Vm.laws_markCommitS x0 x1 = some r) : Q1 31 [a, vI x1] W [c0] fun W' v => v = vI r.1 ∧ Ow W' c0 [] [a] r.2 :=
 CallR.adJ (J := [c0]) (fun c => bif Nat.beq c 0 then 0 else bif Nat.beq c 2 then c0 else 0) (c31 (b.viewJ 0 hJ) hm) fun _ _ ⟨e, d⟩ => ⟨e, Ow.backJ 0 d rfl⟩
theorem c32 {x0 a x1 r} (A : Ow W0 2 [] [a] x0) (hm : Vm.laws_markHeadS x0 x1 = some r) : Q0 32 [a, vI x1] W0 fun Wf v => v = vI r.1 ∧ Ow Wf 2 [] [a] r.2 := by
 unfold Vm.laws_markHeadS at hm
 refine CallR.of Tryz.func32 rfl rfl rfl rfl (sr (Ni rfl (ssr (Ni rfl (Cw.block ?_)))))
 obtain ⟨B, C, hm⟩ := jn_e hm
 refine Cw.loop 6 26 [1, 5] (fun m l w => ∃ b d e f, CW.w f = w ∧ Le [2] W0 f ∧ l = [vI b, vI d] ∧ Ow f 2 [] [a] e ∧ Vm.laws_markHeadS_l1 B m b d e = some r) _ ⟨x1, 0, x0, W0, rfl, Le.refl _ _, rfl, A, hm⟩ ?_
 rintro (_ | N) _ _ σ ⟨b, d, e, f, rfl, k, rfl, h, hm⟩
 ·cases hm
 unfold Vm.laws_markHeadS_l1 at hm
 have D := k.s
 refine ssr (mi rfl (mv a rfl (Lw.ln e h.rd rfl (Lw.lt rfl (nl (cn hm (fun hm => ?_) fun hm => ?_))))))
 ·refine sk (Cw.seq (Cw.block (sr (mv a rfl (mi rfl (mi rfl (ca hm (fun _ => p67) fun O P hm i => ?_)))))))
  obtain ⟨Q, x, hm⟩ := ob hm
  refine Lw.r rfl (R.ix (α := Head) (h.up i).rd x rfl rfl rfl) (Lw.fa rfl ?_)
  obtain ⟨S, E, hm⟩ := ob hm
  refine Lw.u (T.stH (α := Head) (β := Str) (J := []) (Ow.hole (α := Head) (β := Str) (jf := 0) (h.up i) x) (OwS.atm (K := []) (rdS _)) E rfl rfl rfl rfl) ?_
  rintro _ _ ⟨U, rfl, F, y⟩
  refine nl (sr (mi rfl (Lw.add rfl (Ni rfl (sr (mv a rfl (mi rfl (mi rfl ?_))))))))
  obtain ⟨V, z, hm⟩ := ob hm
  refine Lw.r rfl (R.ix (α := Head) y.rd z rfl rfl rfl) (Lw.fa rfl ?_)
  obtain ⟨G, H, hm⟩ := ob hm
  refine Lw.u (T.stH (α := Head) (β := Int) (J := []) (Ow.hole (α := Head) (β := Int) (jf := 1) y z) (OwS.atm (K := []) (rdI _)) H rfl rfl rfl rfl) ?_
  rintro _ _ ⟨I, rfl, L, M⟩
  exact nl (rg (mi rfl (Lw.add rfl (Ni rfl (rg (mi rfl (Lw.add rfl (Ni rfl ((agm) ⟨w64 ((w64 (b + 1)) + 1), w64 (d + 1), G, I, rfl, (((k.j i).j F).j L).w, rfl, M, hm⟩)))))))))
 ·refine Cw.exit ?_
  rw [C] at hm
  refine sr (mi rfl (Ni rfl ?_))
  cases hm
  exact Cw.ret (ret1 rfl (Res.mk D ⟨rfl, h⟩))
theorem p32 {x0 a x1 c0 r} (b : Ow W c0 [] [a] x0) (hJ : okJ K [c0] = true) (hm : Vm.laws_markHeadS x0 x1 = some r) : Q1 32 [a, vI x1] W [c0] fun W' v => v = vI r.1 ∧ Ow W' c0 [] [a] r.2 :=
 CallR.adJ (J := [c0]) (fun c => bif Nat.beq c 0 then 0 else bif Nat.beq c 2 then c0 else 0) (c32 (b.viewJ 0 hJ) hm) fun _ _ ⟨e, d⟩ => ⟨e, Ow.backJ 0 d rfl⟩
theorem c11 {x0 a b x1 r} (i : Ow W0 2 [] [a] x0.Commits) (k : Ow W0 3 [] [b] x0.Heads) (hm : Vm.laws_markRepo x0 x1 = some r) : Q0 11 [.agg [a, b].toArray, vI x1] W0 fun Wf v => v = vI r.1 ∧ Ow Wf 2 [] [a] r.2.Commits ∧ Ow Wf 3 [] [b] r.2.Heads := by
 unfold Vm.laws_markRepo at hm
 refine CallR.of Tryz.func11 rfl rfl rfl rfl (sr (bo 4 rfl fun C D d f => ?_))
 have x := d.o
 refine Ni rfl (sr (fl f rfl (mi rfl (cr hm (fun _ => p31 (K := [0]) (c0 := 2) (i.up d) rfl) ?_))))
 rintro E _ F hm e ⟨rfl, y⟩
 have z := x.t e
 refine Ni rfl (sr (fl (f.up e) rfl (mi rfl (cr hm (fun _ => p32 (K := [0]) (c0 := 3) ((k.up d).up e) rfl) ?_))))
 rintro G _ H hm h ⟨rfl, A⟩
 have B := z.t h
 refine Ni rfl (sr (mi rfl (Ni rfl ?_)))
 cases hm
 exact Cw.ret (ret1 rfl (Res.mk B ⟨rfl, (y.up h), A⟩))
theorem p11 {x0 a b x1 c0 c1 r} (d : Ow W c0 [] [a] x0.Commits) (f : Ow W c1 [] [b] x0.Heads) (hJ : okJ K [c0, c1] = true) (hm : Vm.laws_markRepo x0 x1 = some r) : Q1 11 [.agg [a, b].toArray, vI x1] W [c0, c1] fun W' v => v = vI r.1 ∧ Ow W' c0 [] [a] r.2.Commits ∧ Ow W' c1 [] [b] r.2.Heads :=
 CallR.adJ (J := [c0, c1]) (fun c => bif Nat.beq c 0 then 0 else bif Nat.beq c 2 then c0 else bif Nat.beq c 3 then c1 else 0) (c11 (d.viewJ 0 hJ) (f.viewJ 1 hJ) hm) fun _ _ ⟨e, h, i⟩ => ⟨e, Ow.backJ 0 h rfl, Ow.backJ 1 i rfl⟩
theorem c69 {x0 a x1 r} (y : Rd W0 [0] [a] x0) (hm : Vm.laws_heldIntS x0 x1 = some r) : Q0 69 [a, vI x1] W0 fun Wf v => v = vI r := by
 unfold Vm.laws_heldIntS at hm
 refine CallR.of Tryz.func69 rfl rfl rfl rfl (sr (Ni rfl (ssr (Ni rfl (Cw.block ?_)))))
 obtain ⟨z, A, hm⟩ := jn_e hm
 refine Cw.loop 6 19 [1, 4, 5] (fun m l w => ∃ b d e f, CW.w f = w ∧ Le [] W0 f ∧ l = [vI b, vI d, vI e] ∧ Vm.laws_heldIntS_l1 x0 z m b d e = some r) _ ⟨x1, 0, 0, W0, rfl, Le.refl _ _, rfl, hm⟩ ?_
 rintro (_ | B) _ _ σ ⟨b, d, e, f, rfl, k, rfl, hm⟩
 ·cases hm
 unfold Vm.laws_heldIntS_l1 at hm
 have h := k.o
 refine ssr ?_
 have i := y.ul h
 refine mi rfl (mv a rfl (Lw.ln x0 i rfl (Lw.lt rfl (nl (cn hm (fun hm => ?_) fun hm => ?_)))))
 ·refine sk (Cw.seq (Cw.block (ssr (mv a rfl (mi rfl ?_)))))
  obtain ⟨C, x, hm⟩ := ob hm
  refine Lw.r rfl (R.ix (α := Int) i x rfl rfl rfl) (Lw.r rfl (R.ld rfl rfl (i.at_ x).int) (mi rfl (Lw.ne rfl (nl (cn hm (fun hm => ?_) fun hm => ?_)))))
  ·exact sr (Ni rfl (.ret (rt hm h)))
  ·exact sk (rg (mi rfl (Lw.add rfl (Ni rfl (rg (mi rfl (Lw.add rfl (Ni rfl ((agm) ⟨w64 (b + 1), d, w64 (e + 1), f, rfl, k, rfl, hm⟩)))))))))
 ·refine Cw.exit ?_
  rw [A] at hm
  exact sr (mi rfl (Ni rfl (.ret (rt hm h))))
theorem p69 {x0 a x1 r} (b : Rd W K [a] x0) (hm : Vm.laws_heldIntS x0 x1 = some r) : Q1 69 [a, vI x1] W [] fun W' v => v = vI r :=
 (c69 (b.view _) hm).ad (fk 0) fun _ _ e => e
theorem c95 {x0 a x1 r} (b : Rd W0 [0] [a] x0) (hm : Vm.laws_heldStringS x0 x1 = some r) : Q0 95 [a, vI x1] W0 fun Wf v => v = vI r := by
 unfold Vm.laws_heldStringS at hm
 refine CallR.of Tryz.func95 rfl rfl rfl rfl (sr (Ni rfl (ssr (Ni rfl (Cw.block ?_)))))
 obtain ⟨A, B, hm⟩ := jn_e hm
 refine Cw.loop 6 20 [1, 4, 5] (fun m l w => ∃ d e f i, CW.w i = w ∧ Le [] W0 i ∧ l = [vI d, vI e, vI f] ∧ Vm.laws_heldStringS_l1 x0 A m d e f = some r) _ ⟨x1, 0, 0, W0, rfl, Le.refl _ _, rfl, hm⟩ ?_
 rintro (_ | F) _ _ σ ⟨d, e, f, i, rfl, z, rfl, hm⟩
 ·cases hm
 unfold Vm.laws_heldStringS_l1 at hm
 have k := z.o
 refine ssr (mi rfl (mv a rfl (Lw.ln x0 (b.ul k) rfl (Lw.lt rfl (nl (cn hm (fun hm => ?_) fun hm => ?_))))))
 ·refine sk (Cw.seq (Cw.block (Cw.seq (Cw.seq (Cw.draw [] [(0, 0), (1, 0), (2, 0), (3, 1), (4, 0), (5, 2), (6, 0)] mixed (by kernel_rfl) fun G l10 => ?_)))))
  have h := k.n l10
  refine Dv a rfl (Di rfl ?_)
  obtain ⟨H, x, hm⟩ := ob hm
  refine Mw.p rfl rfl (fun _ => R.ix (α := Str) (b.ul h) x rfl rfl rfl) (Mw.q rfl rfl (fun _ c => R.ld rfl rfl (cl_cell ((b.ul h).at_ x).1 rfl ((b.ul h).at_ x).str c)) (Di rfl ?_))
  obtain ⟨I, C, hm⟩ := ob hm
  refine Mw.t rfl rfl (T.call rfl (p67   C)) ?_
  rintro _ _ ⟨D, rfl, y, rfl⟩
  have E := h.n y
  refine m0 y fun J => Mw.p rfl rfl (fun _ => R.sne rfl rfl) (Mw.nil (cn hm (fun hm => ?_) fun hm => ?_))
  ·exact sr (Ni rfl (.ret (rt hm E)))
  ·exact sk (rg (mi rfl (Lw.add rfl (Ni rfl (rg (mi rfl (Lw.add rfl (Ni rfl ((agm) ⟨w64 (d + 1), e, w64 (f + 1), D, rfl, ((z.j l10).j y).w, rfl, hm⟩)))))))))
 ·refine Cw.exit ?_
  rw [B] at hm
  exact sr (mi rfl (Ni rfl (.ret (rt hm k))))
theorem p95 {x0 a x1 r} (b : Rd W K [a] x0) (hm : Vm.laws_heldStringS x0 x1 = some r) : Q1 95 [a, vI x1] W [] fun W' v => v = vI r :=
 (c95 (b.view _) hm).ad (fk 0) fun _ _ e => e
theorem c70 {x0 b x1 r} (a : Rd W0 [0] [b] x0) (hm : Vm.laws_heldFileS x0 x1 = some r) : Q0 70 [b, vI x1] W0 fun Wf v => v = vI r := by
 unfold Vm.laws_heldFileS at hm
 refine CallR.of Tryz.func70 rfl rfl rfl rfl (sr (Ni rfl (ssr (Ni rfl (Cw.block ?_)))))
 obtain ⟨D, E, hm⟩ := jn_e hm
 refine Cw.loop 6 30 [1, 4, 5] (fun m l w => ∃ i d e k, CW.w k = w ∧ Le [] W0 k ∧ l = [vI i, vI d, vI e] ∧ Vm.laws_heldFileS_l1 x0 D m i d e = some r) _ ⟨x1, 0, 0, W0, rfl, Le.refl _ _, rfl, hm⟩ ?_
 rintro (_ | J) _ _ σ ⟨i, d, e, k, rfl, A, rfl, hm⟩
 ·cases hm
 unfold Vm.laws_heldFileS_l1 at hm
 have x := A.o
 refine ssr (mi rfl (mv b rfl (Lw.ln x0 (a.ul x) rfl (Lw.lt rfl (nl (cn hm (fun hm => ?_) fun hm => ?_))))))
 ·refine sk (Cw.seq (Cw.block (Cw.seq (Cw.seq (Cw.draw [] [(0, 0), (1, 0), (2, 0), (3, 0), (4, 1), (5, 0), (6, 2), (7, 0)] mixed (by kernel_rfl) fun K l10 => ?_)))))
  have f := x.n l10
  refine Dv b rfl (Di rfl ?_)
  obtain ⟨L, y, hm⟩ := ob hm
  refine Mw.p rfl rfl (fun _ => R.ix (α := File) (a.ul f) y rfl rfl rfl) (Df rfl (Mw.q rfl rfl (fun _ c => R.ld rfl rfl (cl_cell (File.at0 ((a.ul f).at_ y)).1 rfl (File.at0 ((a.ul f).at_ y)).str c)) (Di rfl ?_)))
  obtain ⟨M, F, hm⟩ := ob hm
  refine Mw.t rfl rfl (T.call rfl (p67   F)) ?_
  rintro _ _ ⟨N, rfl, z, rfl⟩
  have h := f.n z
  refine m0 z fun O => Mw.p rfl rfl (fun _ => R.sne rfl rfl) (Mw.nil (cn hm (fun hm => ?_) fun hm => ?_))
  ·exact sr (Ni rfl (.ret (rt hm h)))
  ·refine sk (sr (mi rfl (Lw.add rfl (Ni rfl (sr (mv b rfl (mi rfl ?_)))))))
   obtain ⟨P, B, hm⟩ := ob hm
   refine Lw.r rfl (R.ix (α := File) (a.ul h) B rfl rfl rfl) (Lw.fa rfl ?_)
   obtain ⟨Q, c24, r25⟩ := (File.at1 ((a.ul h).at_ B)).cell rfl
   refine Lw.r rfl (R.ld rfl rfl c24) (mi rfl (ca hm (fun _ => p95 r25) fun G H hm C => ?_))
   have I := h.n C
   refine Ni rfl (sr (mi rfl (Lw.lt rfl (nl (cn hm (fun hm => ?_) fun hm => ?_)))))
   ·exact sr (Ni rfl (.ret (rt hm I)))
   ·exact sk (rg (mi rfl (Lw.add rfl (Ni rfl ((agm) ⟨G, d, w64 (e + 1), H, rfl, (((A.j l10).j z).j C).w, rfl, hm⟩)))))
 ·refine Cw.exit ?_
  rw [E] at hm
  exact sr (mi rfl (Ni rfl (.ret (rt hm x))))
theorem p70 {x0 a x1 r} (b : Rd W K [a] x0) (hm : Vm.laws_heldFileS x0 x1 = some r) : Q1 70 [a, vI x1] W [] fun W' v => v = vI r :=
 (c70 (b.view _) hm).ad (fk 0) fun _ _ e => e
theorem c33 {x0 a x1 r} (b : Rd W0 [0] [a] x0) (hm : Vm.laws_heldCommitS x0 x1 = some r) : Q0 33 [a, vI x1] W0 fun Wf v => v = vI r := by
 unfold Vm.laws_heldCommitS at hm
 refine CallR.of Tryz.func33 rfl rfl rfl rfl (sr (Ni rfl (ssr (Ni rfl (Cw.block ?_)))))
 obtain ⟨I, J, hm⟩ := jn_e hm
 refine Cw.loop 6 39 [1, 4, 5] (fun m l w => ∃ i d e k, CW.w k = w ∧ Le [] W0 k ∧ l = [vI i, vI d, vI e] ∧ Vm.laws_heldCommitS_l1 x0 I m i d e = some r) _ ⟨x1, 0, 0, W0, rfl, Le.refl _ _, rfl, hm⟩ ?_
 rintro (_ | O) _ _ σ ⟨i, d, e, k, rfl, B, rfl, hm⟩
 ·cases hm
 unfold Vm.laws_heldCommitS_l1 at hm
 have x := B.o
 refine ssr ?_
 have y := b.ul x
 refine mi rfl (mv a rfl (Lw.ln x0 y rfl (Lw.lt rfl (nl (cn hm (fun hm => ?_) fun hm => ?_)))))
 ·refine sk (Cw.seq (Cw.block (sr (mv a rfl (mi rfl ?_)))))
  obtain ⟨P, C, hm⟩ := ob hm
  refine Lw.r rfl (R.ix (α := Commit) y C rfl rfl rfl) (Lw.fa rfl ?_)
  obtain ⟨Q, c13, r14⟩ := (Commit.at0 (y.at_ C)).cell rfl
  refine Lw.r rfl (R.ld rfl rfl c13) (mi rfl (ca hm (fun _ => p69 r14) fun S U hm D => ?_))
  have E := x.n D
  refine Ni rfl (ssr (mi rfl (Lw.lt rfl (nl (cn hm (fun hm => ?_) fun hm => ?_)))))
  ·exact sr (Ni rfl (.ret (rt hm E)))
  ·refine sk (Cw.seq (Cw.seq (Cw.draw [] [(0, 0), (1, 0), (2, 0), (3, 0), (4, 1), (5, 0), (6, 2), (7, 0)] mixed (by kernel_rfl) fun V F => ?_)))
   have f := E.n F
   refine Dv a rfl (Di rfl ?_)
   obtain ⟨W, z, hm⟩ := ob hm
   refine Mw.p rfl rfl (fun _ => R.ix (α := Commit) (b.ul f) z rfl rfl rfl) (Df rfl (Mw.q rfl rfl (fun _ c => R.ld rfl rfl (cl_cell (Commit.at1 ((b.ul f).at_ z)).1 rfl (Commit.at1 ((b.ul f).at_ z)).str c)) (Di rfl ?_)))
   obtain ⟨X, K, hm⟩ := ob hm
   refine Mw.t rfl rfl (T.call rfl (p67   K)) ?_
   rintro _ _ ⟨Y, rfl, A, rfl⟩
   have h := f.n A
   refine m0 A fun Z => Mw.p rfl rfl (fun _ => R.sne rfl rfl) (Mw.nil (cn hm (fun hm => ?_) fun hm => ?_))
   ·exact sr (Ni rfl (.ret (rt hm h)))
   ·refine sk (sr (mi rfl (Lw.add rfl (Ni rfl (sr (mv a rfl (mi rfl ?_)))))))
    obtain ⟨aa, G, hm⟩ := ob hm
    refine Lw.r rfl (R.ix (α := Commit) (b.ul h) G rfl rfl rfl) (Lw.fa rfl ?_)
    obtain ⟨ac, c34, r35⟩ := (Commit.at2 ((b.ul h).at_ G)).cell rfl
    refine Lw.r rfl (R.ld rfl rfl c34) (mi rfl (ca hm (fun _ => p70 r35) fun L M hm H => ?_))
    have N := h.n H
    refine Ni rfl (sr (mi rfl (Lw.lt rfl (nl (cn hm (fun hm => ?_) fun hm => ?_)))))
    ·exact sr (Ni rfl (.ret (rt hm N)))
    ·exact sk (rg (mi rfl (Lw.add rfl (Ni rfl ((agm) ⟨L, d, w64 (e + 1), M, rfl, ((((B.j D).j F).j A).j H).w, rfl, hm⟩)))))
 ·refine Cw.exit ?_
  rw [J] at hm
  exact sr (mi rfl (Ni rfl (.ret (rt hm x))))
theorem p33 {x0 a x1 r} (b : Rd W K [a] x0) (hm : Vm.laws_heldCommitS x0 x1 = some r) : Q1 33 [a, vI x1] W [] fun W' v => v = vI r :=
 (c33 (b.view _) hm).ad (fk 0) fun _ _ e => e
theorem c34 {x0 b x1 r} (a : Rd W0 [0] [b] x0) (hm : Vm.laws_heldHeadS x0 x1 = some r) : Q0 34 [b, vI x1] W0 fun Wf v => v = vI r := by
 unfold Vm.laws_heldHeadS at hm
 refine CallR.of Tryz.func34 rfl rfl rfl rfl (sr (Ni rfl (ssr (Ni rfl (Cw.block ?_)))))
 obtain ⟨C, D, hm⟩ := jn_e hm
 refine Cw.loop 6 30 [1, 4, 5] (fun m l w => ∃ d e f k, CW.w k = w ∧ Le [] W0 k ∧ l = [vI d, vI e, vI f] ∧ Vm.laws_heldHeadS_l1 x0 C m d e f = some r) _ ⟨x1, 0, 0, W0, rfl, Le.refl _ _, rfl, hm⟩ ?_
 rintro (_ | G) _ _ σ ⟨d, e, f, k, rfl, A, rfl, hm⟩
 ·cases hm
 unfold Vm.laws_heldHeadS_l1 at hm
 have x := A.o
 refine ssr (mi rfl (mv b rfl (Lw.ln x0 (a.ul x) rfl (Lw.lt rfl (nl (cn hm (fun hm => ?_) fun hm => ?_))))))
 ·refine sk (Cw.seq (Cw.block (Cw.seq (Cw.seq (Cw.draw [] [(0, 0), (1, 0), (2, 0), (3, 0), (4, 1), (5, 0), (6, 2), (7, 0)] mixed (by kernel_rfl) fun H l10 => ?_)))))
  have h := x.n l10
  refine Dv b rfl (Di rfl ?_)
  obtain ⟨I, y, hm⟩ := ob hm
  refine Mw.p rfl rfl (fun _ => R.ix (α := Head) (a.ul h) y rfl rfl rfl) (Df rfl (Mw.q rfl rfl (fun _ c => R.ld rfl rfl (cl_cell (Head.at0 ((a.ul h).at_ y)).1 rfl (Head.at0 ((a.ul h).at_ y)).str c)) (Di rfl ?_)))
  obtain ⟨J, E, hm⟩ := ob hm
  refine Mw.t rfl rfl (T.call rfl (p67   E)) ?_
  rintro _ _ ⟨F, rfl, z, rfl⟩
  have i := h.n z
  refine m0 z fun K => Mw.p rfl rfl (fun _ => R.sne rfl rfl) (Mw.nil (cn hm (fun hm => ?_) fun hm => ?_))
  ·exact sr (Ni rfl (.ret (rt hm i)))
  ·refine sk (sr (mi rfl (Lw.add rfl (Ni rfl (ssr (mv b rfl (mi rfl ?_)))))))
   obtain ⟨L, B, hm⟩ := ob hm
   refine Lw.r rfl (R.ix (α := Head) (a.ul i) B rfl rfl rfl) (Lw.fa rfl (Lw.r rfl (R.ld rfl rfl (Head.at1 ((a.ul i).at_ B)).int) (mi rfl (Lw.ne rfl (nl (cn hm (fun hm => ?_) fun hm => ?_))))))
   ·exact sr (Ni rfl (.ret (rt hm i)))
   ·exact sk (rg (mi rfl (Lw.add rfl (Ni rfl (rg (mi rfl (Lw.add rfl (Ni rfl ((agm) ⟨w64 ((w64 (d + 1)) + 1), e, w64 (f + 1), F, rfl, ((A.j l10).j z).w, rfl, hm⟩)))))))))
 ·refine Cw.exit ?_
  rw [D] at hm
  exact sr (mi rfl (Ni rfl (.ret (rt hm x))))
theorem p34 {x0 a x1 r} (b : Rd W K [a] x0) (hm : Vm.laws_heldHeadS x0 x1 = some r) : Q1 34 [a, vI x1] W [] fun W' v => v = vI r :=
 (c34 (b.view _) hm).ad (fk 0) fun _ _ e => e
theorem c12 {x0 b d x1 r} (x : Rd W0 [0] [b, d] x0) (hm : Vm.laws_heldRepo x0 x1 = some r) : Q0 12 [.agg [b, d].toArray, vI x1] W0 fun Wf v => v = vI r := by
 unfold Vm.laws_heldRepo at hm
 obtain ⟨C, D, e, y, z⟩ := Repo.split x
 simp only [List.cons.injEq, and_true, true_and] at e
 obtain ⟨rfl, rfl⟩ := e
 refine CallR.of Tryz.func12 rfl rfl rfl rfl (sr (bo 2 rfl fun E F A f => ?_))
 have h := A.o
 refine Ni rfl (sr (fl f rfl (mi rfl (ca hm (fun _ => p33 (y.ul h)) fun G H hm i => ?_))))
 have a := h.n i
 refine Ni rfl (ssr (mi rfl (Lw.lt rfl (nl (cn hm (fun hm => ?_) fun hm => ?_)))))
 ·exact sr (Ni rfl (.ret (rt hm a)))
 ·refine sk (sr (fl (f.up i) rfl (mi rfl (ca hm (fun _ => p34 (z.ul a)) fun I J hm B => ?_))))
  have k := a.n B
  refine Ni rfl (ssr (mi rfl (Lw.lt rfl (nl (cn hm (fun hm => ?_) fun hm => ?_)))))
  ·exact sr (Ni rfl (.ret (rt hm k)))
  ·exact sk (sr (mi rfl (Ni rfl (.ret (rt hm k)))))
theorem p12 {x0 a b x1 r} (d : Rd W K [a, b] x0) (hm : Vm.laws_heldRepo x0 x1 = some r) : Q1 12 [.agg [a, b].toArray, vI x1] W [] fun W' v => v = vI r :=
 (c12 (d.view _) hm).ad (fk 0) fun _ _ e => e
end Go.Sx
