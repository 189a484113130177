/- Walks: each function answers as its model, printed by a program of ours. Conditions: the arguments read as they are given. -/
import Derived.Test.YtokbhelngoeblaaGreatDoorGTs
import Derived.Test.YtokbhelngoeblaaGreatDoorGM0
import Derived.Test.YtokbhelngoeblaaGreatDoorGW2
namespace Go.Sx
open Go Go.Proofs Go.Vm Rp
set_option linter.unusedVariables false
set_option linter.unusedSimpArgs false
variable {W W0 : CW} {K : List Nat}
theorem c195 {x0 d x1 e r} (y : Rd W0 [0] [vS x0.Path, d] x0) (z : Rd W0 [0] [vS x1.Path, e] x1) (hm : Vm.ziX x0 x1 = some r) : Q0 195 [.agg [vS x0.Path, d].toArray, .agg [vS x1.Path, e].toArray] W0 fun Wf v => v = vB r := by
 unfold Vm.ziX at hm
 obtain ⟨F, f, A⟩ := File.split y
 simp only [List.cons.injEq, and_true, true_and] at f
 obtain rfl := f
 obtain ⟨G, h, B⟩ := File.split z
 simp only [List.cons.injEq, and_true, true_and] at h
 obtain rfl := h
 refine zaj.of Tryz.func195 rfl rfl rfl rfl (sr (bo 2 rfl fun H I C i => ?_))
 have D := C.o
 refine bo 3 rfl fun J K b k => ?_
 have a := D.n b
 refine Nb rfl (ssr (fl (i.up b) rfl (fl k rfl (Lw.sne rfl (nl (cn hm (fun hm => ?_) fun hm => ?_))))))
 ·exact sr (Nb rfl (.ret (rt hm a)))
 ·refine sk (ssr (fl (i.up b) rfl (fl k rfl (ca hm (fun _ => p31 (A.ul a) (B.ul a)) fun L M hm E => ?_))))
  have x := a.n E
  refine Lw.r rfl (R.not rfl) (nl (cn hm (fun hm => ?_) fun hm => ?_))
  ·exact sr (Nb rfl (.ret (rt hm x)))
  ·exact sk (sr (Nb rfl (.ret (rt hm x))))
theorem p195 {x0 a x1 b r} (d : Rd W K [vS x0.Path, a] x0) (f : Rd W K [vS x1.Path, b] x1) (hm : Vm.ziX x0 x1 = some r) : Q1 195 [.agg [vS x0.Path, a].toArray, .agg [vS x1.Path, b].toArray] W [] fun W' v => v = vB r :=
 (c195 (d.view _) (f.view _) hm).ad (fk 0) fun _ _ e => e
theorem c172 {x0 b x1 e r} (d : Rd W0 [0] [b] x0) (f : Rd W0 [0] [e] x1) (hm : Vm.zh3 x0 x1 = some r) : Q0 172 [b, e] W0 fun Wf v => v = vB r := by
 unfold Vm.zh3 at hm
 refine zaj.of Tryz.func172 rfl rfl rfl rfl (sr (Nb rfl (ssr (mv b rfl (Lw.ln x0 d rfl (mv e rfl (Lw.ln x1 f rfl (Lw.ne rfl (nl (cn hm (fun hm => ?_) fun hm => ?_))))))))))
 ·exact sr (Nb rfl (.ret (rt hm (Le.refl _ _))))
 ·refine sk (ssr (Ni rfl (Cw.block ?_)))
  obtain ⟨E, F, hm⟩ := zaS hm
  refine Cw.loop 11 26 [4, 5] (fun m l w => ∃ h i k, CW.w k = w ∧ Le [] W0 k ∧ l = [vB h, vI i] ∧ Vm.zfh x0 x1 E m h i = some r) _ ⟨false, 0, W0, rfl, Le.refl _ _, rfl, hm⟩ ?_
  rintro (_ | J) _ _ σ ⟨h, i, k, rfl, A, rfl, hm⟩
  ·cases hm
  unfold Vm.zfh at hm
  have x := A.o
  refine ssr (mi rfl (mv b rfl (Lw.ln x0 (d.ul x) rfl (Lw.lt rfl (nl (cn hm (fun hm => ?_) fun hm => ?_))))))
  ·refine sk (Cw.seq (Cw.block (Cw.seq (Cw.draw [] [(0, 0), (1, 0), (2, 0), (3, 1), (4, 0), (5, 0), (6, 0), (7, 1), (8, 3), (9, 0)] mixed (by kernel_rfl) fun L l10 => ?_))))
   have a := x.n l10
   refine Dv b rfl (Di rfl ?_)
   obtain ⟨B, y, hm⟩ := ob hm
   refine Mw.p rfl rfl (fun _ => R.ix (α := File) (d.ul a) y rfl rfl rfl) ?_
   obtain ⟨x15, c16, _, r17⟩ := ((d.ul a).at_ y).cells
   obtain ⟨M, rfl, r19⟩ := File.split r17
   refine Mw.q rfl rfl (fun _ c => R.lda (zhM ((d.ul a).at_ y).1 rfl c16 c) rfl rfl) (Dv e rfl (Di rfl ?_))
   obtain ⟨C, z, hm⟩ := ob hm
   refine Mw.p rfl rfl (fun _ => R.ix (α := File) (f.ul a) z rfl rfl rfl) ?_
   obtain ⟨x23, c24, _, r25⟩ := ((f.ul a).at_ z).cells
   obtain ⟨N, rfl, r27⟩ := File.split r25
   refine Mw.q rfl rfl (fun _ c => R.lda (zhM ((f.ul a).at_ z).1 rfl c24 c) rfl rfl) ?_
   obtain ⟨O, G, hm⟩ := ob hm
   refine Mw.l rfl rfl (T.call rfl (p195  (File.rd (K := [0]) B.Path B.Text r19) (File.rd (K := [0]) C.Path C.Text r27) G)) ?_
   rintro _ _ ⟨H, rfl, D, rfl⟩
   have I := a.n D
   refine Mw.p rfl rfl (fun _ => R.not rfl) (Mw.nil (cn hm (fun hm => ?_) fun hm => ?_))
   ·exact sr (Nb rfl (.ret (rt hm I)))
   ·exact sk (rg (mi rfl (Lw.add rfl (Ni rfl ((agm) ⟨h, w64 (i + 1), H, rfl, ((A.j l10).j D).w, rfl, hm⟩)))))
  ·refine Cw.exit ?_
   rw [F] at hm
   exact sr (Nb rfl (.ret (rt hm x)))
theorem p172 {x0 a x1 b r} (d : Rd W K [a] x0) (f : Rd W K [b] x1) (hm : Vm.zh3 x0 x1 = some r) : Q1 172 [a, b] W [] fun W' v => v = vB r :=
 (c172 (d.view _) (f.view _) hm).ad (fk 0) fun _ _ e => e
theorem c130 {x0 f h x1 i k r} (C : Rd W0 [0] [f, vS x0.Who, h] x0) (D : Rd W0 [0] [i, vS x1.Who, k] x1) (hm : Vm.zho x0 x1 = some r) : Q0 130 [.agg [f, vS x0.Who, h].toArray, .agg [i, vS x1.Who, k].toArray] W0 fun Wf v => v = vB r := by
 unfold Vm.zho at hm
 obtain ⟨L, M, x, E, F⟩ := Commit.split C
 simp only [List.cons.injEq, and_true, true_and] at x
 obtain ⟨rfl, rfl⟩ := x
 obtain ⟨N, O, y, G, H⟩ := Commit.split D
 simp only [List.cons.injEq, and_true, true_and] at y
 obtain ⟨rfl, rfl⟩ := y
 refine zaj.of Tryz.func130 rfl rfl rfl rfl (sr (bo 2 rfl fun P Q I z => ?_))
 have J := I.o
 refine bo 3 rfl fun S T b d => ?_
 have e := J.n b
 refine Nb rfl (ssr (fl (z.up b) rfl (fl d rfl (ca hm (fun _ => p171 (E.ul e) (G.ul e)) fun U V hm l10 => ?_))))
 have a := e.n l10
 have A := (z.up b).up l10
 refine Lw.r rfl (R.not rfl) (nl (cn hm (fun hm => ?_) fun hm => ?_))
 ·exact sr (Nb rfl (.ret (rt hm a)))
 ·refine sk (ssr (fl A rfl (fl (d.up l10) rfl (Lw.sne rfl (nl (cn hm (fun hm => ?_) fun hm => ?_))))))
  ·exact sr (Nb rfl (.ret (rt hm a)))
  ·refine sk (ssr (fl A rfl (fl (d.up l10) rfl (ca hm (fun _ => p172 (F.ul a) (H.ul a)) fun W X hm K => ?_))))
   have B := a.n K
   refine Lw.r rfl (R.not rfl) (nl (cn hm (fun hm => ?_) fun hm => ?_))
   ·exact sr (Nb rfl (.ret (rt hm B)))
   ·exact sk (sr (Nb rfl (.ret (rt hm B))))
theorem p130 {x0 a b x1 d f r} (h : Rd W K [a, vS x0.Who, b] x0) (i : Rd W K [d, vS x1.Who, f] x1) (hm : Vm.zho x0 x1 = some r) : Q1 130 [.agg [a, vS x0.Who, b].toArray, .agg [d, vS x1.Who, f].toArray] W [] fun W' v => v = vB r :=
 (c130 (h.view _) (i.view _) hm).ad (fk 0) fun _ _ e => e
theorem c71 {x0 b x1 e r} (d : Rd W0 [0] [b] x0) (f : Rd W0 [0] [e] x1) (hm : Vm.zgv x0 x1 = some r) : Q0 71 [b, e] W0 fun Wf v => v = vB r := by
 unfold Vm.zgv at hm
 refine zaj.of Tryz.func71 rfl rfl rfl rfl (sr (Nb rfl (ssr (mv b rfl (Lw.ln x0 d rfl (mv e rfl (Lw.ln x1 f rfl (Lw.ne rfl (nl (cn hm (fun hm => ?_) fun hm => ?_))))))))))
 ·exact sr (Nb rfl (.ret (rt hm (Le.refl _ _))))
 ·refine sk (ssr (Ni rfl (Cw.block ?_)))
  obtain ⟨E, F, hm⟩ := zaS hm
  refine Cw.loop 11 26 [4, 5] (fun m l w => ∃ h i k, CW.w k = w ∧ Le [] W0 k ∧ l = [vB h, vI i] ∧ Vm.zd7 x0 x1 E m h i = some r) _ ⟨false, 0, W0, rfl, Le.refl _ _, rfl, hm⟩ ?_
  rintro (_ | J) _ _ σ ⟨h, i, k, rfl, C, rfl, hm⟩
  ·cases hm
  unfold Vm.zd7 at hm
  have x := C.o
  refine ssr (mi rfl (mv b rfl (Lw.ln x0 (d.ul x) rfl (Lw.lt rfl (nl (cn hm (fun hm => ?_) fun hm => ?_))))))
  ·refine sk (Cw.seq (Cw.block (Cw.seq (Cw.draw [] [(0, 0), (1, 0), (2, 0), (3, 1), (4, 0), (5, 0), (6, 0), (7, 1), (8, 3), (9, 0)] mixed (by kernel_rfl) fun L l10 => ?_))))
   have a := x.n l10
   refine Dv b rfl (Di rfl ?_)
   obtain ⟨y, z, hm⟩ := ob hm
   refine Mw.p rfl rfl (fun _ => R.ix (α := Commit) (d.ul a) z rfl rfl rfl) ?_
   obtain ⟨x15, c16, _, r17⟩ := ((d.ul a).at_ z).cells
   obtain ⟨M, N, rfl, r19, r21⟩ := Commit.split r17
   refine Mw.q rfl rfl (fun _ c => R.lda (zhM ((d.ul a).at_ z).1 rfl c16 c) rfl rfl) (Dv e rfl (Di rfl ?_))
   obtain ⟨A, B, hm⟩ := ob hm
   refine Mw.p rfl rfl (fun _ => R.ix (α := Commit) (f.ul a) B rfl rfl rfl) ?_
   obtain ⟨x25, c26, _, r27⟩ := ((f.ul a).at_ B).cells
   obtain ⟨O, P, rfl, r29, r31⟩ := Commit.split r27
   refine Mw.q rfl rfl (fun _ c => R.lda (zhM ((f.ul a).at_ B).1 rfl c26 c) rfl rfl) ?_
   obtain ⟨Q, G, hm⟩ := ob hm
   refine Mw.l rfl rfl (T.call rfl (p130  (Commit.rd (K := [0]) y.Parents y.Who y.Tree r19 r21) (Commit.rd (K := [0]) A.Parents A.Who A.Tree r29 r31) G)) ?_
   rintro _ _ ⟨H, rfl, D, rfl⟩
   have I := a.n D
   refine Mw.p rfl rfl (fun _ => R.not rfl) (Mw.nil (cn hm (fun hm => ?_) fun hm => ?_))
   ·exact sr (Nb rfl (.ret (rt hm I)))
   ·exact sk (rg (mi rfl (Lw.add rfl (Ni rfl ((agm) ⟨h, w64 (i + 1), H, rfl, ((C.j l10).j D).w, rfl, hm⟩)))))
  ·refine Cw.exit ?_
   rw [F] at hm
   exact sr (Nb rfl (.ret (rt hm x)))
theorem p71 {x0 a x1 b r} (d : Rd W K [a] x0) (f : Rd W K [b] x1) (hm : Vm.zgv x0 x1 = some r) : Q1 71 [a, b] W [] fun W' v => v = vB r :=
 (c71 (d.view _) (f.view _) hm).ad (fk 0) fun _ _ e => e
theorem c131 {x0 x1 r} (i : Rd W0 [0] [vS x0.Name, vI x0.At] x0) (k : Rd W0 [0] [vS x1.Name, vI x1.At] x1) (hm : Vm.ziY x0 x1 = some r) : Q0 131 [.agg [vS x0.Name, vI x0.At].toArray, .agg [vS x1.Name, vI x1.At].toArray] W0 fun Wf v => v = vB r := by
 unfold Vm.ziY at hm
 refine zaj.of Tryz.func131 rfl rfl rfl rfl (sr (bo 2 rfl fun x y f d => ?_))
 have h := f.o
 refine bo 3 rfl fun z A a e => ?_
 have b := h.n a
 refine Nb rfl (ssr (fl (d.up a) rfl (fl e rfl (Lw.sne rfl (nl (cn hm (fun hm => ?_) fun hm => ?_))))))
 ·exact sr (Nb rfl (.ret (rt hm b)))
 ·refine sk (ssr (fl (d.up a) rfl (fl e rfl (Lw.ne rfl (nl (cn hm (fun hm => ?_) fun hm => ?_))))))
  ·exact sr (Nb rfl (.ret (rt hm b)))
  ·exact sk (sr (Nb rfl (.ret (rt hm b))))
theorem p131 {x0 x1 r} (a : Rd W K [vS x0.Name, vI x0.At] x0) (b : Rd W K [vS x1.Name, vI x1.At] x1) (hm : Vm.ziY x0 x1 = some r) : Q1 131 [.agg [vS x0.Name, vI x0.At].toArray, .agg [vS x1.Name, vI x1.At].toArray] W [] fun W' v => v = vB r :=
 (c131 (a.view _) (b.view _) hm).ad (fk 0) fun _ _ e => e
theorem c72 {x0 b x1 e r} (d : Rd W0 [0] [b] x0) (f : Rd W0 [0] [e] x1) (hm : Vm.zh4 x0 x1 = some r) : Q0 72 [b, e] W0 fun Wf v => v = vB r := by
 unfold Vm.zh4 at hm
 refine zaj.of Tryz.func72 rfl rfl rfl rfl (sr (Nb rfl (ssr (mv b rfl (Lw.ln x0 d rfl (mv e rfl (Lw.ln x1 f rfl (Lw.ne rfl (nl (cn hm (fun hm => ?_) fun hm => ?_))))))))))
 ·exact sr (Nb rfl (.ret (rt hm (Le.refl _ _))))
 ·refine sk (ssr (Ni rfl (Cw.block ?_)))
  obtain ⟨E, F, hm⟩ := zaS hm
  refine Cw.loop 11 26 [4, 5] (fun m l w => ∃ h i k, CW.w k = w ∧ Le [] W0 k ∧ l = [vB h, vI i] ∧ Vm.zfi x0 x1 E m h i = some r) _ ⟨false, 0, W0, rfl, Le.refl _ _, rfl, hm⟩ ?_
  rintro (_ | J) _ _ σ ⟨h, i, k, rfl, A, rfl, hm⟩
  ·cases hm
  unfold Vm.zfi at hm
  have x := A.o
  refine ssr (mi rfl (mv b rfl (Lw.ln x0 (d.ul x) rfl (Lw.lt rfl (nl (cn hm (fun hm => ?_) fun hm => ?_))))))
  ·refine sk (Cw.seq (Cw.block (Cw.seq (Cw.draw [] [(0, 0), (1, 0), (2, 0), (3, 1), (4, 0), (5, 0), (6, 0), (7, 1), (8, 3), (9, 0)] mixed (by kernel_rfl) fun L l10 => ?_))))
   have a := x.n l10
   refine Dv b rfl (Di rfl ?_)
   obtain ⟨B, y, hm⟩ := ob hm
   refine Mw.p rfl rfl (fun _ => R.ix (α := Head) (d.ul a) y rfl rfl rfl) ?_
   obtain ⟨x15, c16, _, r17⟩ := ((d.ul a).at_ y).cells
   obtain rfl := Head.split r17
   refine Mw.q rfl rfl (fun _ c => R.lda (zhM ((d.ul a).at_ y).1 rfl c16 c) rfl rfl) (Dv e rfl (Di rfl ?_))
   obtain ⟨C, z, hm⟩ := ob hm
   refine Mw.p rfl rfl (fun _ => R.ix (α := Head) (f.ul a) z rfl rfl rfl) ?_
   obtain ⟨x21, c22, _, r23⟩ := ((f.ul a).at_ z).cells
   obtain rfl := Head.split r23
   refine Mw.q rfl rfl (fun _ c => R.lda (zhM ((f.ul a).at_ z).1 rfl c22 c) rfl rfl) ?_
   obtain ⟨M, G, hm⟩ := ob hm
   refine Mw.l rfl rfl (T.call rfl (p131  (Head.rd (K := [0]) B.Name B.At ) (Head.rd (K := [0]) C.Name C.At ) G)) ?_
   rintro _ _ ⟨H, rfl, D, rfl⟩
   have I := a.n D
   refine Mw.p rfl rfl (fun _ => R.not rfl) (Mw.nil (cn hm (fun hm => ?_) fun hm => ?_))
   ·exact sr (Nb rfl (.ret (rt hm I)))
   ·exact sk (rg (mi rfl (Lw.add rfl (Ni rfl ((agm) ⟨h, w64 (i + 1), H, rfl, ((A.j l10).j D).w, rfl, hm⟩)))))
  ·refine Cw.exit ?_
   rw [F] at hm
   exact sr (Nb rfl (.ret (rt hm x)))
theorem p72 {x0 a x1 b r} (d : Rd W K [a] x0) (f : Rd W K [b] x1) (hm : Vm.zh4 x0 x1 = some r) : Q1 72 [a, b] W [] fun W' v => v = vB r :=
 (c72 (d.view _) (f.view _) hm).ad (fk 0) fun _ _ e => e
theorem c15 {x0 e f x1 h i r} (B : Rd W0 [0] [e, f] x0) (C : Rd W0 [0] [h, i] x1) (hm : Vm.zfI x0 x1 = some r) : Q0 15 [.agg [e, f].toArray, .agg [h, i].toArray] W0 fun Wf v => v = vB r := by
 unfold Vm.zfI at hm
 obtain ⟨K, L, k, D, E⟩ := Repo.split B
 simp only [List.cons.injEq, and_true, true_and] at k
 obtain ⟨rfl, rfl⟩ := k
 obtain ⟨M, N, x, F, G⟩ := Repo.split C
 simp only [List.cons.injEq, and_true, true_and] at x
 obtain ⟨rfl, rfl⟩ := x
 refine zaj.of Tryz.func15 rfl rfl rfl rfl (sr (bo 2 rfl fun O P H y => ?_))
 have I := H.o
 refine bo 3 rfl fun Q S b z => ?_
 have d := I.n b
 refine Nb rfl (ssr (fl (y.up b) rfl (fl z rfl (ca hm (fun _ => p71 (D.ul d) (F.ul d)) fun T U hm l10 => ?_))))
 have a := d.n l10
 refine Lw.r rfl (R.not rfl) (nl (cn hm (fun hm => ?_) fun hm => ?_))
 ·exact sr (Nb rfl (.ret (rt hm a)))
 ·refine sk (ssr (fl ((y.up b).up l10) rfl (fl (z.up l10) rfl (ca hm (fun _ => p72 (E.ul a) (G.ul a)) fun V W hm J => ?_))))
  have A := a.n J
  refine Lw.r rfl (R.not rfl) (nl (cn hm (fun hm => ?_) fun hm => ?_))
  ·exact sr (Nb rfl (.ret (rt hm A)))
  ·exact sk (sr (Nb rfl (.ret (rt hm A))))
theorem p15 {x0 a b x1 d f r} (h : Rd W K [a, b] x0) (i : Rd W K [d, f] x1) (hm : Vm.zfI x0 x1 = some r) : Q1 15 [.agg [a, b].toArray, .agg [d, f].toArray] W [] fun W' v => v = vB r :=
 (c15 (h.view _) (i.view _) hm).ad (fk 0) fun _ _ e => e
theorem c132 {x0 a x1 r} (k : Ow W0 2 [] [a] x0) (hm : Vm.zhp x0 x1 = some r) : Q0 132 [a, vI x1] W0 fun Wf v => v = vI r.1 ∧ Ow Wf 2 [] [a] r.2 := by
 unfold Vm.zhp at hm
 refine zaj.of Tryz.func132 rfl rfl rfl rfl (sr (Ni rfl (ssr (Ni rfl (Cw.block ?_)))))
 obtain ⟨x, y, hm⟩ := zaS hm
 refine Cw.loop 6 17 [1, 5] (fun m l w => ∃ b d e f, CW.w f = w ∧ Le [2] W0 f ∧ l = [vI b, vI d] ∧ Ow f 2 [] [a] e ∧ Vm.zeH x m b d e = some r) _ ⟨x1, 0, x0, W0, rfl, Le.refl _ _, rfl, k, hm⟩ ?_
 rintro (_ | G) _ _ σ ⟨b, d, e, f, rfl, i, rfl, h, hm⟩
 ·cases hm
 unfold Vm.zeH at hm
 have z := i.s
 refine ssr (mi rfl (mv a rfl (Lw.ln e h.rd rfl (Lw.lt rfl (nl (cn hm (fun hm => ?_) fun hm => ?_))))))
 ·refine sk (Cw.seq (Cw.block (sr (mv a rfl (mi rfl (mi rfl ?_))))))
  obtain ⟨H, A, hm⟩ := ob hm
  refine Lw.r rfl (R.ix (α := Int) h.rd A rfl rfl rfl) ?_
  obtain ⟨B, C, hm⟩ := ob hm
  refine Lw.u (T.stS (K' := []) h (rdI _) C rfl rfl rfl) ?_
  rintro _ _ ⟨D, rfl, E, F⟩
  exact nl (rg (mi rfl (Lw.add rfl (Ni rfl (rg (mi rfl (Lw.add rfl (Ni rfl ((agm) ⟨w64 (b + 1), w64 (d + 1), B, D, rfl, (i.j E).w, rfl, F, hm⟩)))))))))
 ·refine Cw.exit ?_
  rw [y] at hm
  refine sr (mi rfl (Ni rfl ?_))
  cases hm
  exact Cw.ret (zhB rfl (Res.mk z ⟨rfl, h⟩))
theorem p132 {x0 a x1 c0 r} (b : Ow W c0 [] [a] x0) (hJ : okJ K [c0] = true) (hm : Vm.zhp x0 x1 = some r) : Q1 132 [a, vI x1] W [c0] fun W' v => v = vI r.1 ∧ Ow W' c0 [] [a] r.2 :=
 zaj.adJ (J := [c0]) (fun c => bif Nat.beq c 0 then 0 else bif Nat.beq c 2 then c0 else 0) (c132 (b.viewJ 0 hJ) hm) fun _ _ ⟨e, d⟩ => ⟨e, Ow.backJ 0 d rfl⟩
theorem c105 {x0 r} (hm : Vm.za0 x0 = some r) : Q0 105 [vI x0] W0 fun Wf v => v = vS r := by
 unfold Vm.za0 at hm
 refine zaj.of Tryz.func105 rfl rfl rfl rfl (sr (Ns rfl (ssr (mi rfl (Lw.le rfl (nl (cn hm (fun hm => ?_) fun hm => ?_)))))))
 ·exact sr (Ns rfl (.ret (rt hm (Le.refl _ _))))
 ·refine sk (sr (Ns rfl (Cw.seq (Cw.block ?_))))
  obtain ⟨f, i, hm⟩ := zaS hm
  refine Cw.loop 6 17 [0, 3] (fun m l w => ∃ a d b, CW.w b = w ∧ Le [] W0 b ∧ l = [vI a, vS d] ∧ Vm.zdU f m a d = some r) _ ⟨x0, ([] : Str), W0, rfl, Le.refl _ _, rfl, hm⟩ ?_
  rintro (_ | D) _ _ σ ⟨a, d, b, rfl, e, rfl, hm⟩
  ·cases hm
  unfold Vm.zdU at hm
  have k := e.o
  refine ssr (mi rfl (Lw.gt rfl (nl (cn hm (fun hm => ?_) fun hm => ?_))))
  ·refine sk (Cw.block (sr (mi rfl (Lw.r rfl (R.rem rfl rfl (by decide)) (Lw.add rfl (Lw.r rfl (R.cv8 rfl rfl) (Lw.t rfl (T.bsS (α := zlK) (xs := [(by8 (w64 (48 + (Int.tmod a 10))))]) 2 [] (W := b) [.int .u8 (UInt8.toNat (by8 (w64 (48 + (Int.tmod a 10)))) : Int)] (Each.cons ((rdY _)) Each.nil) rfl) ?_)))))))
   rintro E _ ⟨x, rfl, y, z⟩
   refine Lw.r rfl (R.cvB (xs := ([(by8 (w64 (48 + (Int.tmod a 10))))] : List zlK)) z.rd rfl (fun h => h.1)) (ms rfl ?_)
   obtain ⟨A, B, hm⟩ := ob hm
   exact Lw.r rfl (R.sad B rfl rfl) (Ns rfl (rg (mi rfl (Lw.r rfl (R.quo rfl rfl (by decide)) (Ni rfl ((agm) ⟨w64 (Int.tdiv a 10), A, x, rfl, (e.j y).w, rfl, hm⟩))))))
  ·refine Cw.exit ?_
   rw [i] at hm
   refine sr (ms rfl ?_)
   obtain ⟨F, C, hm⟩ := ob hm
   exact Lw.r rfl (R.sad C rfl rfl) (Ns rfl (.ret (rt hm k)))
theorem p105 {x0 r} (hm : Vm.za0 x0 = some r) : Q1 105 [vI x0] W [] fun W' v => v = vS r :=
 (c105 (W0 := W.view [] [])  hm).ad (fk 0) fun _ _ e => e
theorem c36 {x0 a x1 r} (x : Ow W0 2 [] [a] x0) (hm : Vm.zb8 x0 x1 = some r) : Q0 36 [a, vI x1] W0 fun Wf v => v = vI r.1 ∧ Ow Wf 2 [] [a] r.2 := by
 unfold Vm.zb8 at hm
 refine zaj.of Tryz.func36 rfl rfl rfl rfl (sr (Ni rfl (ssr (Ni rfl (Cw.block ?_)))))
 obtain ⟨y, z, hm⟩ := zaS hm
 refine Cw.loop 6 18 [1, 5] (fun m l w => ∃ b d e f, CW.w f = w ∧ Le [2] W0 f ∧ l = [vI b, vI d] ∧ Ow f 2 [] [a] e ∧ Vm.zbH y m b d e = some r) _ ⟨x1, 0, x0, W0, rfl, Le.refl _ _, rfl, x, hm⟩ ?_
 rintro (_ | H) _ _ σ ⟨b, d, e, f, rfl, k, rfl, h, hm⟩
 ·cases hm
 unfold Vm.zbH at hm
 have A := k.s
 refine ssr (mi rfl (mv a rfl (Lw.ln e h.rd rfl (Lw.lt rfl (nl (cn hm (fun hm => ?_) fun hm => ?_))))))
 ·refine sk (Cw.seq (Cw.block (sr (mv a rfl (mi rfl (mi rfl (ca hm (fun _ => p105) fun I J hm i => ?_)))))))
  obtain ⟨K, B, hm⟩ := ob hm
  refine Lw.r rfl (R.ix (α := Str) (h.up i).rd B rfl rfl rfl) ?_
  obtain ⟨C, D, hm⟩ := ob hm
  refine Lw.u (T.stS (K' := []) (h.up i) (rdS _) D rfl rfl rfl) ?_
  rintro _ _ ⟨E, rfl, F, G⟩
  exact nl (rg (mi rfl (Lw.add rfl (Ni rfl (rg (mi rfl (Lw.add rfl (Ni rfl ((agm) ⟨w64 (b + 1), w64 (d + 1), C, E, rfl, ((k.j i).j F).w, rfl, G, hm⟩)))))))))
 ·refine Cw.exit ?_
  rw [z] at hm
  refine sr (mi rfl (Ni rfl ?_))
  cases hm
  exact Cw.ret (zhB rfl (Res.mk A ⟨rfl, h⟩))
theorem p36 {x0 a x1 c0 r} (b : Ow W c0 [] [a] x0) (hJ : okJ K [c0] = true) (hm : Vm.zb8 x0 x1 = some r) : Q1 36 [a, vI x1] W [c0] fun W' v => v = vI r.1 ∧ Ow W' c0 [] [a] r.2 :=
 zaj.adJ (J := [c0]) (fun c => bif Nat.beq c 0 then 0 else bif Nat.beq c 2 then c0 else 0) (c36 (b.viewJ 0 hJ) hm) fun _ _ ⟨e, d⟩ => ⟨e, Ow.backJ 0 d rfl⟩
theorem c133 {x0 a x1 r} (C : Ow W0 2 [] [a] x0) (hm : Vm.zgw x0 x1 = some r) : Q0 133 [a, vI x1] W0 fun Wf v => v = vI r.1 ∧ Ow Wf 2 [] [a] r.2 := by
 unfold Vm.zgw at hm
 refine zaj.of Tryz.func133 rfl rfl rfl rfl (sr (Ni rfl (ssr (Ni rfl (Cw.block ?_)))))
 obtain ⟨D, E, hm⟩ := zaS hm
 refine Cw.loop 6 26 [1, 5] (fun m l w => ∃ h b d e, CW.w e = w ∧ Le [2, 3] W0 e ∧ l = [vI h, vI b] ∧ Ow e 2 [] [a] d ∧ Vm.zd8 D m h b d = some r) _ ⟨x1, 0, x0, W0, rfl, Le.refl _ _, rfl, C, hm⟩ ?_
 rintro (_ | W) _ _ σ ⟨h, b, d, e, rfl, y, rfl, f, hm⟩
 ·cases hm
 unfold Vm.zd8 at hm
 have F := y.s
 refine ssr (mi rfl (mv a rfl (Lw.ln d f.rd rfl (Lw.lt rfl (nl (cn hm (fun hm => ?_) fun hm => ?_))))))
 ·refine sk (Cw.seq (Cw.block (sr (mv a rfl (mi rfl (mi rfl (ca hm (fun _ => p105) fun X Y hm i => ?_)))))))
  obtain ⟨Z, z, hm⟩ := ob hm
  refine Lw.r rfl (R.ix (α := File) (f.up i).rd z rfl rfl rfl) (Lw.fa rfl ?_)
  obtain ⟨aa, G, hm⟩ := ob hm
  refine Lw.u (T.stH (α := File) (β := Str) (J := []) (Ow.hole (α := File) (β := Str) (jf := 0) (f.up i) z) (OwS.atm (K := []) (rdS _)) G rfl rfl rfl rfl) ?_
  rintro _ _ ⟨ac, rfl, H, k⟩
  refine nl (sr (mi rfl (Lw.add rfl (Ni rfl (rg (mv a rfl (mi rfl ?_)))))))
  obtain ⟨ae, x, hm⟩ := ob hm
  refine Lw.r rfl (R.ix (α := File) k.rd x rfl rfl rfl) (Lw.fa rfl ?_)
  obtain ⟨af, c24, r25⟩ := (File.at1 (k.rd.at_ x)).cell rfl
  refine Lw.r rfl (R.ld rfl rfl c24) (mi rfl ?_)
  obtain ⟨ah, I, L, M, gb26⟩ := Ow.lend (α := File) (β := List Str) (j := 3) (jf := 1) k x c24 rfl
  rw [← I]
  refine cr hm (fun _ => p36 (K := [0]) (c0 := 3) M rfl) ?_
  rintro N _ ai hm A ⟨rfl, O⟩
  obtain ⟨P, Q, S, U, eq33, V⟩ := gb26 _ _ A O
  obtain ⟨B, eqm33, hm⟩ := ob hm
  obtain rfl : B = U := Option.some.inj (eqm33.symm.trans eq33)
  rw [← Q]
  exact Ni rfl (rg (mi rfl (Lw.add rfl (Ni rfl ((agm) ⟨N.1, w64 (b + 1), B, P, rfl, (((((y.j i).j H).j L).j A).j S).w, rfl, V, hm⟩)))))
 ·refine Cw.exit ?_
  rw [E] at hm
  refine sr (mi rfl (Ni rfl ?_))
  cases hm
  exact Cw.ret (zhB rfl (Res.mk F ⟨rfl, f⟩))
theorem p133 {x0 a x1 c0 r} (b : Ow W c0 [] [a] x0) (hJ : okJ K [c0] = true) (hm : Vm.zgw x0 x1 = some r) : Q1 133 [a, vI x1] W [c0] fun W' v => v = vI r.1 ∧ Ow W' c0 [] [a] r.2 :=
 zaj.adJ (J := [c0]) (fun c => bif Nat.beq c 0 then 0 else bif Nat.beq c 2 then c0 else 0) (c133 (b.viewJ 0 hJ) hm) fun _ _ ⟨e, d⟩ => ⟨e, Ow.backJ 0 d rfl⟩
theorem c73 {x0 a x1 r} (F : Ow W0 2 [] [a] x0) (hm : Vm.zfp x0 x1 = some r) : Q0 73 [a, vI x1] W0 fun Wf v => v = vI r.1 ∧ Ow Wf 2 [] [a] r.2 := by
 unfold Vm.zfp at hm
 refine zaj.of Tryz.func73 rfl rfl rfl rfl (sr (Ni rfl (ssr (Ni rfl (Cw.block ?_)))))
 obtain ⟨G, H, hm⟩ := zaS hm
 refine Cw.loop 6 33 [1, 5] (fun m l w => ∃ h d e f, CW.w f = w ∧ Le [2, 3, 4] W0 f ∧ l = [vI h, vI d] ∧ Ow f 2 [] [a] e ∧ Vm.zdj G m h d e = some r) _ ⟨x1, 0, x0, W0, rfl, Le.refl _ _, rfl, F, hm⟩ ?_
 rintro (_ | m7) _ _ σ ⟨h, d, e, f, rfl, z, rfl, b, hm⟩
 ·cases hm
 unfold Vm.zdj at hm
 have I := z.s
 refine ssr (mi rfl (mv a rfl (Lw.ln e b.rd rfl (Lw.lt rfl (nl (cn hm (fun hm => ?_) fun hm => ?_))))))
 ·refine sk (Cw.seq (Cw.block (sr (mv a rfl (mi rfl ?_)))))
  obtain ⟨am, i, hm⟩ := ob hm
  refine Lw.r rfl (R.ix (α := Commit) b.rd i rfl rfl rfl) (Lw.fa rfl ?_)
  obtain ⟨an, c13, r14⟩ := (Commit.at0 (b.rd.at_ i)).cell rfl
  refine Lw.r rfl (R.ld rfl rfl c13) (mi rfl ?_)
  obtain ⟨ao, L, M, N, gb15⟩ := Ow.lend (α := Commit) (β := List Int) (j := 3) (jf := 0) b i c13 rfl
  rw [← L]
  refine cr hm (fun _ => p132 (K := [0]) (c0 := 3) N rfl) ?_
  rintro ap _ aq hm A ⟨rfl, O⟩
  obtain ⟨ar, P, Q, S, eq22, B⟩ := gb15 _ _ A O
  obtain ⟨U, eqm22, hm⟩ := ob hm
  obtain rfl : U = S := Option.some.inj (eqm22.symm.trans eq22)
  rw [← P]
  refine Ni rfl (sr (mv a rfl (mi rfl (mi rfl (ca hm (fun _ => p105) fun au av hm k => ?_)))))
  obtain ⟨aw, C, hm⟩ := ob hm
  refine Lw.r rfl (R.ix (α := Commit) (B.up k).rd C rfl rfl rfl) (Lw.fa rfl ?_)
  obtain ⟨ax, V, hm⟩ := ob hm
  refine Lw.u (T.stH (α := Commit) (β := Str) (J := []) (Ow.hole (α := Commit) (β := Str) (jf := 1) (B.up k) C) (OwS.atm (K := []) (rdS _)) V rfl rfl rfl rfl) ?_
  rintro _ _ ⟨ay, rfl, W, x⟩
  refine nl (sr (mi rfl (Lw.add rfl (Ni rfl (rg (mv a rfl (mi rfl ?_)))))))
  obtain ⟨az, y, hm⟩ := ob hm
  refine Lw.r rfl (R.ix (α := Commit) x.rd y rfl rfl rfl) (Lw.fa rfl ?_)
  obtain ⟨a0, c38, r39⟩ := (Commit.at2 (x.rd.at_ y)).cell rfl
  refine Lw.r rfl (R.ld rfl rfl c38) (mi rfl ?_)
  obtain ⟨a1, X, Y, Z, gb40⟩ := Ow.lend (α := Commit) (β := List File) (j := 4) (jf := 2) x y c38 rfl
  rw [← X]
  refine cr hm (fun _ => p133 (K := [0]) (c0 := 4) Z rfl) ?_
  rintro aa _ a2 hm D ⟨rfl, ac⟩
  obtain ⟨ae, af, ah, ai, eq47, aj⟩ := gb40 _ _ D ac
  obtain ⟨E, eqm47, hm⟩ := ob hm
  obtain rfl : E = ai := Option.some.inj (eqm47.symm.trans eq47)
  rw [← af]
  exact Ni rfl (rg (mi rfl (Lw.add rfl (Ni rfl ((agm) ⟨aa.1, w64 (d + 1), E, ae, rfl, ((((((((z.j M).j A).j Q).j k).j W).j Y).j D).j ah).w, rfl, aj, hm⟩)))))
 ·refine Cw.exit ?_
  rw [H] at hm
  refine sr (mi rfl (Ni rfl ?_))
  cases hm
  exact Cw.ret (zhB rfl (Res.mk I ⟨rfl, b⟩))
theorem p73 {x0 a x1 c0 r} (b : Ow W c0 [] [a] x0) (hJ : okJ K [c0] = true) (hm : Vm.zfp x0 x1 = some r) : Q1 73 [a, vI x1] W [c0] fun W' v => v = vI r.1 ∧ Ow W' c0 [] [a] r.2 :=
 zaj.adJ (J := [c0]) (fun c => bif Nat.beq c 0 then 0 else bif Nat.beq c 2 then c0 else 0) (c73 (b.viewJ 0 hJ) hm) fun _ _ ⟨e, d⟩ => ⟨e, Ow.backJ 0 d rfl⟩
theorem c74 {x0 a x1 r} (A : Ow W0 2 [] [a] x0) (hm : Vm.zgx x0 x1 = some r) : Q0 74 [a, vI x1] W0 fun Wf v => v = vI r.1 ∧ Ow Wf 2 [] [a] r.2 := by
 unfold Vm.zgx at hm
 refine zaj.of Tryz.func74 rfl rfl rfl rfl (sr (Ni rfl (ssr (Ni rfl (Cw.block ?_)))))
 obtain ⟨B, C, hm⟩ := zaS hm
 refine Cw.loop 6 26 [1, 5] (fun m l w => ∃ b d e f, CW.w f = w ∧ Le [2] W0 f ∧ l = [vI b, vI d] ∧ Ow f 2 [] [a] e ∧ Vm.zd9 B m b d e = some r) _ ⟨x1, 0, x0, W0, rfl, Le.refl _ _, rfl, A, hm⟩ ?_
 rintro (_ | N) _ _ σ ⟨b, d, e, f, rfl, k, rfl, h, hm⟩
 ·cases hm
 unfold Vm.zd9 at hm
 have D := k.s
 refine ssr (mi rfl (mv a rfl (Lw.ln e h.rd rfl (Lw.lt rfl (nl (cn hm (fun hm => ?_) fun hm => ?_))))))
 ·refine sk (Cw.seq (Cw.block (sr (mv a rfl (mi rfl (mi rfl (ca hm (fun _ => p105) fun O P hm i => ?_)))))))
  obtain ⟨Q, x, hm⟩ := ob hm
  refine Lw.r rfl (R.ix (α := Head) (h.up i).rd x rfl rfl rfl) (Lw.fa rfl ?_)
  obtain ⟨S, E, hm⟩ := ob hm
  refine Lw.u (T.stH (α := Head) (β := Str) (J := []) (Ow.hole (α := Head) (β := Str) (jf := 0) (h.up i) x) (OwS.atm (K := []) (rdS _)) E rfl rfl rfl rfl) ?_
  rintro _ _ ⟨U, rfl, F, y⟩
  refine nl (sr (mi rfl (Lw.add rfl (Ni rfl (sr (mv a rfl (mi rfl (mi rfl ?_))))))))
  obtain ⟨V, z, hm⟩ := ob hm
  refine Lw.r rfl (R.ix (α := Head) y.rd z rfl rfl rfl) (Lw.fa rfl ?_)
  obtain ⟨G, H, hm⟩ := ob hm
  refine Lw.u (T.stH (α := Head) (β := Int) (J := []) (Ow.hole (α := Head) (β := Int) (jf := 1) y z) (OwS.atm (K := []) (rdI _)) H rfl rfl rfl rfl) ?_
  rintro _ _ ⟨I, rfl, L, M⟩
  exact nl (rg (mi rfl (Lw.add rfl (Ni rfl (rg (mi rfl (Lw.add rfl (Ni rfl ((agm) ⟨w64 ((w64 (b + 1)) + 1), w64 (d + 1), G, I, rfl, (((k.j i).j F).j L).w, rfl, M, hm⟩)))))))))
 ·refine Cw.exit ?_
  rw [C] at hm
  refine sr (mi rfl (Ni rfl ?_))
  cases hm
  exact Cw.ret (zhB rfl (Res.mk D ⟨rfl, h⟩))
theorem p74 {x0 a x1 c0 r} (b : Ow W c0 [] [a] x0) (hJ : okJ K [c0] = true) (hm : Vm.zgx x0 x1 = some r) : Q1 74 [a, vI x1] W [c0] fun W' v => v = vI r.1 ∧ Ow W' c0 [] [a] r.2 :=
 zaj.adJ (J := [c0]) (fun c => bif Nat.beq c 0 then 0 else bif Nat.beq c 2 then c0 else 0) (c74 (b.viewJ 0 hJ) hm) fun _ _ ⟨e, d⟩ => ⟨e, Ow.backJ 0 d rfl⟩
theorem c16 {x0 a b x1 r} (i : Ow W0 2 [] [a] x0.Commits) (k : Ow W0 3 [] [b] x0.Heads) (hm : Vm.zfw x0 x1 = some r) : Q0 16 [.agg [a, b].toArray, vI x1] W0 fun Wf v => v = vI r.1 ∧ Ow Wf 2 [] [a] r.2.Commits ∧ Ow Wf 3 [] [b] r.2.Heads := by
 unfold Vm.zfw at hm
 refine zaj.of Tryz.func16 rfl rfl rfl rfl (sr (bo 4 rfl fun C D d f => ?_))
 have x := d.o
 refine Ni rfl (sr (fl f rfl (mi rfl (cr hm (fun _ => p73 (K := [0]) (c0 := 2) (i.up d) rfl) ?_))))
 rintro E _ F hm e ⟨rfl, y⟩
 have z := x.t e
 refine Ni rfl (sr (fl (f.up e) rfl (mi rfl (cr hm (fun _ => p74 (K := [0]) (c0 := 3) ((k.up d).up e) rfl) ?_))))
 rintro G _ H hm h ⟨rfl, A⟩
 have B := z.t h
 refine Ni rfl (sr (mi rfl (Ni rfl ?_)))
 cases hm
 exact Cw.ret (zhB rfl (Res.mk B ⟨rfl, (y.up h), A⟩))
theorem p16 {x0 a b x1 c0 c1 r} (d : Ow W c0 [] [a] x0.Commits) (f : Ow W c1 [] [b] x0.Heads) (hJ : okJ K [c0, c1] = true) (hm : Vm.zfw x0 x1 = some r) : Q1 16 [.agg [a, b].toArray, vI x1] W [c0, c1] fun W' v => v = vI r.1 ∧ Ow W' c0 [] [a] r.2.Commits ∧ Ow W' c1 [] [b] r.2.Heads :=
 zaj.adJ (J := [c0, c1]) (fun c => bif Nat.beq c 0 then 0 else bif Nat.beq c 2 then c0 else bif Nat.beq c 3 then c1 else 0) (c16 (d.viewJ 0 hJ) (f.viewJ 1 hJ) hm) fun _ _ ⟨e, h, i⟩ => ⟨e, Ow.backJ 0 h rfl, Ow.backJ 1 i rfl⟩
theorem c37 {x0 a x1 r} (b : Rd W0 [0] [a] x0) (hm : Vm.zcJ x0 x1 = some r) : Q0 37 [a, vI x1] W0 fun Wf v => v = vI r := by
 unfold Vm.zcJ at hm
 refine zaj.of Tryz.func37 rfl rfl rfl rfl (sr (Ni rfl (ssr (Ni rfl (Cw.block ?_)))))
 obtain ⟨A, B, hm⟩ := zaS hm
 refine Cw.loop 6 20 [1, 4, 5] (fun m l w => ∃ d e f i, CW.w i = w ∧ Le [] W0 i ∧ l = [vI d, vI e, vI f] ∧ Vm.zbI x0 A m d e f = some r) _ ⟨x1, 0, 0, W0, rfl, Le.refl _ _, rfl, hm⟩ ?_
 rintro (_ | F) _ _ σ ⟨d, e, f, i, rfl, z, rfl, hm⟩
 ·cases hm
 unfold Vm.zbI at hm
 have k := z.o
 refine ssr (mi rfl (mv a rfl (Lw.ln x0 (b.ul k) rfl (Lw.lt rfl (nl (cn hm (fun hm => ?_) fun hm => ?_))))))
 ·refine sk (Cw.seq (Cw.block (Cw.seq (Cw.seq (Cw.draw [] [(0, 0), (1, 0), (2, 0), (3, 1), (4, 0), (5, 2), (6, 0)] mixed (by kernel_rfl) fun G l10 => ?_)))))
  have h := k.n l10
  refine Dv a rfl (Di rfl ?_)
  obtain ⟨H, x, hm⟩ := ob hm
  refine Mw.p rfl rfl (fun _ => R.ix (α := Str) (b.ul h) x rfl rfl rfl) (Mw.q rfl rfl (fun _ c => R.ld rfl rfl (zah ((b.ul h).at_ x).1 rfl ((b.ul h).at_ x).str c)) (Di rfl ?_))
  obtain ⟨I, C, hm⟩ := ob hm
  refine Mw.t rfl rfl (T.call rfl (p105   C)) ?_
  rintro _ _ ⟨D, rfl, y, rfl⟩
  have E := h.n y
  refine m0 y fun J => Mw.p rfl rfl (fun _ => R.sne rfl rfl) (Mw.nil (cn hm (fun hm => ?_) fun hm => ?_))
  ·exact sr (Ni rfl (.ret (rt hm E)))
  ·exact sk (rg (mi rfl (Lw.add rfl (Ni rfl (rg (mi rfl (Lw.add rfl (Ni rfl ((agm) ⟨w64 (d + 1), e, w64 (f + 1), D, rfl, ((z.j l10).j y).w, rfl, hm⟩)))))))))
 ·refine Cw.exit ?_
  rw [B] at hm
  exact sr (mi rfl (Ni rfl (.ret (rt hm k))))
theorem p37 {x0 a x1 r} (b : Rd W K [a] x0) (hm : Vm.zcJ x0 x1 = some r) : Q1 37 [a, vI x1] W [] fun W' v => v = vI r :=
 (c37 (b.view _) hm).ad (fk 0) fun _ _ e => e
end Go.Sx
