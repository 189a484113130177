/- Walks: each function answers as its model, printed by a program of ours. Conditions: the arguments read as they are given. -/
import Derived.Test.YtbimgeocngkboaaGreatDoorBTs
import Derived.Test.YtbimgeocngkboaaGreatDoorBM0
import Derived.Test.YtbimgeocngkboaaGreatDoorBW6
namespace Go.Sx
open Go Go.Proofs Go.Vm Rp
set_option linter.unusedVariables false
set_option linter.unusedSimpArgs false
variable {W W0 : CW} {K : List Nat}
theorem c11 {x0 a b x1 r} (i : Ow W0 2 [] [a] x0.Commits) (k : Ow W0 3 [] [b] x0.Heads) (hm : Vm.laws_markRepo x0 x1 = some r) : Q0 11 [.agg [a, b].toArray, vI x1] W0 fun Wf v => v = vI r.1 ∧ Ow Wf 2 [] [a] r.2.Commits ∧ Ow Wf 3 [] [b] r.2.Heads := by
 unfold Vm.laws_markRepo at hm
 refine CallR.of Tryz.func11 rfl rfl rfl rfl (sr (bo 4 rfl fun C D d f => ?_))
 have x := d.o
 refine Ni rfl (sr (fl f rfl (mi rfl (cr hm (fun _ => p31 (K := [0]) (c0 := 2) (i.up d) rfl) ?_))))
 rintro E _ F hm e ⟨rfl, y⟩
 have z := x.t e
 refine Ni rfl (sr (fl (f.up e) rfl (mi rfl (cr hm (fun _ => p32 (K := [0]) (c0 := 3) ((k.up d).up e) rfl) ?_))))
 rintro G _ H hm h ⟨rfl, A⟩
 have B := z.t h
 refine Ni rfl (sr (mi rfl (Ni rfl ?_)))
 cases hm
 exact Cw.ret (ret1 rfl (Res.mk B ⟨rfl, (y.up h), A⟩))
theorem p11 {x0 a b x1 c0 c1 r} (d : Ow W c0 [] [a] x0.Commits) (f : Ow W c1 [] [b] x0.Heads) (hJ : okJ K [c0, c1] = true) (hm : Vm.laws_markRepo x0 x1 = some r) : Q1 11 [.agg [a, b].toArray, vI x1] W [c0, c1] fun W' v => v = vI r.1 ∧ Ow W' c0 [] [a] r.2.Commits ∧ Ow W' c1 [] [b] r.2.Heads :=
 CallR.adJ (J := [c0, c1]) (fun c => bif Nat.beq c 0 then 0 else bif Nat.beq c 2 then c0 else bif Nat.beq c 3 then c1 else 0) (c11 (d.viewJ 0 hJ) (f.viewJ 1 hJ) hm) fun _ _ ⟨e, h, i⟩ => ⟨e, Ow.backJ 0 h rfl, Ow.backJ 1 i rfl⟩
theorem c69 {x0 a x1 r} (y : Rd W0 [0] [a] x0) (hm : Vm.laws_heldIntS x0 x1 = some r) : Q0 69 [a, vI x1] W0 fun Wf v => v = vI r := by
 unfold Vm.laws_heldIntS at hm
 refine CallR.of Tryz.func69 rfl rfl rfl rfl (sr (Ni rfl (ssr (Ni rfl (Cw.block ?_)))))
 obtain ⟨z, A, hm⟩ := jn_e hm
 refine Cw.loop 6 19 [1, 4, 5] (fun m l w => ∃ b d e f, CW.w f = w ∧ Le [] W0 f ∧ l = [vI b, vI d, vI e] ∧ Vm.laws_heldIntS_l1 x0 z m b d e = some r) _ ⟨x1, 0, 0, W0, rfl, Le.refl _ _, rfl, hm⟩ ?_
 rintro (_ | B) _ _ σ ⟨b, d, e, f, rfl, k, rfl, hm⟩
 ·cases hm
 unfold Vm.laws_heldIntS_l1 at hm
 have h := k.o
 refine ssr ?_
 have i := y.ul h
 refine mi rfl (mv a rfl (Lw.ln x0 i rfl (Lw.lt rfl (nl (cn hm (fun hm => ?_) fun hm => ?_)))))
 ·refine sk (Cw.seq (Cw.block (ssr (mv a rfl (mi rfl ?_)))))
  obtain ⟨C, x, hm⟩ := ob hm
  refine Lw.r rfl (R.ix (α := Int) i x rfl rfl rfl) (Lw.r rfl (R.ld rfl rfl (i.at_ x).int) (mi rfl (Lw.ne rfl (nl (cn hm (fun hm => ?_) fun hm => ?_)))))
  ·exact sr (Ni rfl (.ret (rt hm h)))
  ·exact sk (rg (mi rfl (Lw.add rfl (Ni rfl (rg (mi rfl (Lw.add rfl (Ni rfl ((agm) ⟨w64 (b + 1), d, w64 (e + 1), f, rfl, k, rfl, hm⟩)))))))))
 ·refine Cw.exit ?_
  rw [A] at hm
  exact sr (mi rfl (Ni rfl (.ret (rt hm h))))
theorem p69 {x0 a x1 r} (b : Rd W K [a] x0) (hm : Vm.laws_heldIntS x0 x1 = some r) : Q1 69 [a, vI x1] W [] fun W' v => v = vI r :=
 (c69 (b.view _) hm).ad (fk 0) fun _ _ e => e
theorem c95 {x0 a x1 r} (b : Rd W0 [0] [a] x0) (hm : Vm.laws_heldStringS x0 x1 = some r) : Q0 95 [a, vI x1] W0 fun Wf v => v = vI r := by
 unfold Vm.laws_heldStringS at hm
 refine CallR.of Tryz.func95 rfl rfl rfl rfl (sr (Ni rfl (ssr (Ni rfl (Cw.block ?_)))))
 obtain ⟨A, B, hm⟩ := jn_e hm
 refine Cw.loop 6 20 [1, 4, 5] (fun m l w => ∃ d e f i, CW.w i = w ∧ Le [] W0 i ∧ l = [vI d, vI e, vI f] ∧ Vm.laws_heldStringS_l1 x0 A m d e f = some r) _ ⟨x1, 0, 0, W0, rfl, Le.refl _ _, rfl, hm⟩ ?_
 rintro (_ | F) _ _ σ ⟨d, e, f, i, rfl, z, rfl, hm⟩
 ·cases hm
 unfold Vm.laws_heldStringS_l1 at hm
 have k := z.o
 refine ssr (mi rfl (mv a rfl (Lw.ln x0 (b.ul k) rfl (Lw.lt rfl (nl (cn hm (fun hm => ?_) fun hm => ?_))))))
 ·refine sk (Cw.seq (Cw.block (Cw.seq (Cw.seq (Cw.draw [] [(0, 0), (1, 0), (2, 0), (3, 1), (4, 0), (5, 2), (6, 0)] mixed (by kernel_rfl) fun G l10 => ?_)))))
  have h := k.n l10
  refine Dv a rfl (Di rfl ?_)
  obtain ⟨H, x, hm⟩ := ob hm
  refine Mw.p rfl rfl (fun _ => R.ix (α := Str) (b.ul h) x rfl rfl rfl) (Mw.q rfl rfl (fun _ c => R.ld rfl rfl (cl_cell ((b.ul h).at_ x).1 rfl ((b.ul h).at_ x).str c)) (Di rfl ?_))
  obtain ⟨I, C, hm⟩ := ob hm
  refine Mw.t rfl rfl (T.call rfl (p67   C)) ?_
  rintro _ _ ⟨D, rfl, y, rfl⟩
  have E := h.n y
  refine m0 y fun J => Mw.p rfl rfl (fun _ => R.sne rfl rfl) (Mw.nil (cn hm (fun hm => ?_) fun hm => ?_))
  ·exact sr (Ni rfl (.ret (rt hm E)))
  ·exact sk (rg (mi rfl (Lw.add rfl (Ni rfl (rg (mi rfl (Lw.add rfl (Ni rfl ((agm) ⟨w64 (d + 1), e, w64 (f + 1), D, rfl, ((z.j l10).j y).w, rfl, hm⟩)))))))))
 ·refine Cw.exit ?_
  rw [B] at hm
  exact sr (mi rfl (Ni rfl (.ret (rt hm k))))
theorem p95 {x0 a x1 r} (b : Rd W K [a] x0) (hm : Vm.laws_heldStringS x0 x1 = some r) : Q1 95 [a, vI x1] W [] fun W' v => v = vI r :=
 (c95 (b.view _) hm).ad (fk 0) fun _ _ e => e
theorem c70 {x0 b x1 r} (a : Rd W0 [0] [b] x0) (hm : Vm.laws_heldFileS x0 x1 = some r) : Q0 70 [b, vI x1] W0 fun Wf v => v = vI r := by
 unfold Vm.laws_heldFileS at hm
 refine CallR.of Tryz.func70 rfl rfl rfl rfl (sr (Ni rfl (ssr (Ni rfl (Cw.block ?_)))))
 obtain ⟨D, E, hm⟩ := jn_e hm
 refine Cw.loop 6 30 [1, 4, 5] (fun m l w => ∃ i d e k, CW.w k = w ∧ Le [] W0 k ∧ l = [vI i, vI d, vI e] ∧ Vm.laws_heldFileS_l1 x0 D m i d e = some r) _ ⟨x1, 0, 0, W0, rfl, Le.refl _ _, rfl, hm⟩ ?_
 rintro (_ | J) _ _ σ ⟨i, d, e, k, rfl, A, rfl, hm⟩
 ·cases hm
 unfold Vm.laws_heldFileS_l1 at hm
 have x := A.o
 refine ssr (mi rfl (mv b rfl (Lw.ln x0 (a.ul x) rfl (Lw.lt rfl (nl (cn hm (fun hm => ?_) fun hm => ?_))))))
 ·refine sk (Cw.seq (Cw.block (Cw.seq (Cw.seq (Cw.draw [] [(0, 0), (1, 0), (2, 0), (3, 0), (4, 1), (5, 0), (6, 2), (7, 0)] mixed (by kernel_rfl) fun K l10 => ?_)))))
  have f := x.n l10
  refine Dv b rfl (Di rfl ?_)
  obtain ⟨L, y, hm⟩ := ob hm
  refine Mw.p rfl rfl (fun _ => R.ix (α := File) (a.ul f) y rfl rfl rfl) (Df rfl (Mw.q rfl rfl (fun _ c => R.ld rfl rfl (cl_cell (File.at0 ((a.ul f).at_ y)).1 rfl (File.at0 ((a.ul f).at_ y)).str c)) (Di rfl ?_)))
  obtain ⟨M, F, hm⟩ := ob hm
  refine Mw.t rfl rfl (T.call rfl (p67   F)) ?_
  rintro _ _ ⟨N, rfl, z, rfl⟩
  have h := f.n z
  refine m0 z fun O => Mw.p rfl rfl (fun _ => R.sne rfl rfl) (Mw.nil (cn hm (fun hm => ?_) fun hm => ?_))
  ·exact sr (Ni rfl (.ret (rt hm h)))
  ·refine sk (sr (mi rfl (Lw.add rfl (Ni rfl (sr (mv b rfl (mi rfl ?_)))))))
   obtain ⟨P, B, hm⟩ := ob hm
   refine Lw.r rfl (R.ix (α := File) (a.ul h) B rfl rfl rfl) (Lw.fa rfl ?_)
   obtain ⟨Q, c24, r25⟩ := (File.at1 ((a.ul h).at_ B)).cell rfl
   refine Lw.r rfl (R.ld rfl rfl c24) (mi rfl (ca hm (fun _ => p95 r25) fun G H hm C => ?_))
   have I := h.n C
   refine Ni rfl (sr (mi rfl (Lw.lt rfl (nl (cn hm (fun hm => ?_) fun hm => ?_)))))
   ·exact sr (Ni rfl (.ret (rt hm I)))
   ·exact sk (rg (mi rfl (Lw.add rfl (Ni rfl ((agm) ⟨G, d, w64 (e + 1), H, rfl, (((A.j l10).j z).j C).w, rfl, hm⟩)))))
 ·refine Cw.exit ?_
  rw [E] at hm
  exact sr (mi rfl (Ni rfl (.ret (rt hm x))))
theorem p70 {x0 a x1 r} (b : Rd W K [a] x0) (hm : Vm.laws_heldFileS x0 x1 = some r) : Q1 70 [a, vI x1] W [] fun W' v => v = vI r :=
 (c70 (b.view _) hm).ad (fk 0) fun _ _ e => e
theorem c33 {x0 a x1 r} (b : Rd W0 [0] [a] x0) (hm : Vm.laws_heldCommitS x0 x1 = some r) : Q0 33 [a, vI x1] W0 fun Wf v => v = vI r := by
 unfold Vm.laws_heldCommitS at hm
 refine CallR.of Tryz.func33 rfl rfl rfl rfl (sr (Ni rfl (ssr (Ni rfl (Cw.block ?_)))))
 obtain ⟨I, J, hm⟩ := jn_e hm
 refine Cw.loop 6 39 [1, 4, 5] (fun m l w => ∃ i d e k, CW.w k = w ∧ Le [] W0 k ∧ l = [vI i, vI d, vI e] ∧ Vm.laws_heldCommitS_l1 x0 I m i d e = some r) _ ⟨x1, 0, 0, W0, rfl, Le.refl _ _, rfl, hm⟩ ?_
 rintro (_ | O) _ _ σ ⟨i, d, e, k, rfl, B, rfl, hm⟩
 ·cases hm
 unfold Vm.laws_heldCommitS_l1 at hm
 have x := B.o
 refine ssr ?_
 have y := b.ul x
 refine mi rfl (mv a rfl (Lw.ln x0 y rfl (Lw.lt rfl (nl (cn hm (fun hm => ?_) fun hm => ?_)))))
 ·refine sk (Cw.seq (Cw.block (sr (mv a rfl (mi rfl ?_)))))
  obtain ⟨P, C, hm⟩ := ob hm
  refine Lw.r rfl (R.ix (α := Commit) y C rfl rfl rfl) (Lw.fa rfl ?_)
  obtain ⟨Q, c13, r14⟩ := (Commit.at0 (y.at_ C)).cell rfl
  refine Lw.r rfl (R.ld rfl rfl c13) (mi rfl (ca hm (fun _ => p69 r14) fun S U hm D => ?_))
  have E := x.n D
  refine Ni rfl (ssr (mi rfl (Lw.lt rfl (nl (cn hm (fun hm => ?_) fun hm => ?_)))))
  ·exact sr (Ni rfl (.ret (rt hm E)))
  ·refine sk (Cw.seq (Cw.seq (Cw.draw [] [(0, 0), (1, 0), (2, 0), (3, 0), (4, 1), (5, 0), (6, 2), (7, 0)] mixed (by kernel_rfl) fun V F => ?_)))
   have f := E.n F
   refine Dv a rfl (Di rfl ?_)
   obtain ⟨W, z, hm⟩ := ob hm
   refine Mw.p rfl rfl (fun _ => R.ix (α := Commit) (b.ul f) z rfl rfl rfl) (Df rfl (Mw.q rfl rfl (fun _ c => R.ld rfl rfl (cl_cell (Commit.at1 ((b.ul f).at_ z)).1 rfl (Commit.at1 ((b.ul f).at_ z)).str c)) (Di rfl ?_)))
   obtain ⟨X, K, hm⟩ := ob hm
   refine Mw.t rfl rfl (T.call rfl (p67   K)) ?_
   rintro _ _ ⟨Y, rfl, A, rfl⟩
   have h := f.n A
   refine m0 A fun Z => Mw.p rfl rfl (fun _ => R.sne rfl rfl) (Mw.nil (cn hm (fun hm => ?_) fun hm => ?_))
   ·exact sr (Ni rfl (.ret (rt hm h)))
   ·refine sk (sr (mi rfl (Lw.add rfl (Ni rfl (sr (mv a rfl (mi rfl ?_)))))))
    obtain ⟨aa, G, hm⟩ := ob hm
    refine Lw.r rfl (R.ix (α := Commit) (b.ul h) G rfl rfl rfl) (Lw.fa rfl ?_)
    obtain ⟨ac, c34, r35⟩ := (Commit.at2 ((b.ul h).at_ G)).cell rfl
    refine Lw.r rfl (R.ld rfl rfl c34) (mi rfl (ca hm (fun _ => p70 r35) fun L M hm H => ?_))
    have N := h.n H
    refine Ni rfl (sr (mi rfl (Lw.lt rfl (nl (cn hm (fun hm => ?_) fun hm => ?_)))))
    ·exact sr (Ni rfl (.ret (rt hm N)))
    ·exact sk (rg (mi rfl (Lw.add rfl (Ni rfl ((agm) ⟨L, d, w64 (e + 1), M, rfl, ((((B.j D).j F).j A).j H).w, rfl, hm⟩)))))
 ·refine Cw.exit ?_
  rw [J] at hm
  exact sr (mi rfl (Ni rfl (.ret (rt hm x))))
theorem p33 {x0 a x1 r} (b : Rd W K [a] x0) (hm : Vm.laws_heldCommitS x0 x1 = some r) : Q1 33 [a, vI x1] W [] fun W' v => v = vI r :=
 (c33 (b.view _) hm).ad (fk 0) fun _ _ e => e
theorem c34 {x0 b x1 r} (a : Rd W0 [0] [b] x0) (hm : Vm.laws_heldHeadS x0 x1 = some r) : Q0 34 [b, vI x1] W0 fun Wf v => v = vI r := by
 unfold Vm.laws_heldHeadS at hm
 refine CallR.of Tryz.func34 rfl rfl rfl rfl (sr (Ni rfl (ssr (Ni rfl (Cw.block ?_)))))
 obtain ⟨C, D, hm⟩ := jn_e hm
 refine Cw.loop 6 30 [1, 4, 5] (fun m l w => ∃ d e f k, CW.w k = w ∧ Le [] W0 k ∧ l = [vI d, vI e, vI f] ∧ Vm.laws_heldHeadS_l1 x0 C m d e f = some r) _ ⟨x1, 0, 0, W0, rfl, Le.refl _ _, rfl, hm⟩ ?_
 rintro (_ | G) _ _ σ ⟨d, e, f, k, rfl, A, rfl, hm⟩
 ·cases hm
 unfold Vm.laws_heldHeadS_l1 at hm
 have x := A.o
 refine ssr (mi rfl (mv b rfl (Lw.ln x0 (a.ul x) rfl (Lw.lt rfl (nl (cn hm (fun hm => ?_) fun hm => ?_))))))
 ·refine sk (Cw.seq (Cw.block (Cw.seq (Cw.seq (Cw.draw [] [(0, 0), (1, 0), (2, 0), (3, 0), (4, 1), (5, 0), (6, 2), (7, 0)] mixed (by kernel_rfl) fun H l10 => ?_)))))
  have h := x.n l10
  refine Dv b rfl (Di rfl ?_)
  obtain ⟨I, y, hm⟩ := ob hm
  refine Mw.p rfl rfl (fun _ => R.ix (α := Head) (a.ul h) y rfl rfl rfl) (Df rfl (Mw.q rfl rfl (fun _ c => R.ld rfl rfl (cl_cell (Head.at0 ((a.ul h).at_ y)).1 rfl (Head.at0 ((a.ul h).at_ y)).str c)) (Di rfl ?_)))
  obtain ⟨J, E, hm⟩ := ob hm
  refine Mw.t rfl rfl (T.call rfl (p67   E)) ?_
  rintro _ _ ⟨F, rfl, z, rfl⟩
  have i := h.n z
  refine m0 z fun K => Mw.p rfl rfl (fun _ => R.sne rfl rfl) (Mw.nil (cn hm (fun hm => ?_) fun hm => ?_))
  ·exact sr (Ni rfl (.ret (rt hm i)))
  ·refine sk (sr (mi rfl (Lw.add rfl (Ni rfl (ssr (mv b rfl (mi rfl ?_)))))))
   obtain ⟨L, B, hm⟩ := ob hm
   refine Lw.r rfl (R.ix (α := Head) (a.ul i) B rfl rfl rfl) (Lw.fa rfl (Lw.r rfl (R.ld rfl rfl (Head.at1 ((a.ul i).at_ B)).int) (mi rfl (Lw.ne rfl (nl (cn hm (fun hm => ?_) fun hm => ?_))))))
   ·exact sr (Ni rfl (.ret (rt hm i)))
   ·exact sk (rg (mi rfl (Lw.add rfl (Ni rfl (rg (mi rfl (Lw.add rfl (Ni rfl ((agm) ⟨w64 ((w64 (d + 1)) + 1), e, w64 (f + 1), F, rfl, ((A.j l10).j z).w, rfl, hm⟩)))))))))
 ·refine Cw.exit ?_
  rw [D] at hm
  exact sr (mi rfl (Ni rfl (.ret (rt hm x))))
theorem p34 {x0 a x1 r} (b : Rd W K [a] x0) (hm : Vm.laws_heldHeadS x0 x1 = some r) : Q1 34 [a, vI x1] W [] fun W' v => v = vI r :=
 (c34 (b.view _) hm).ad (fk 0) fun _ _ e => e
theorem c12 {x0 b d x1 r} (x : Rd W0 [0] [b, d] x0) (hm : Vm.laws_heldRepo x0 x1 = some r) : Q0 12 [.agg [b, d].toArray, vI x1] W0 fun Wf v => v = vI r := by
 unfold Vm.laws_heldRepo at hm
 obtain ⟨C, D, e, y, z⟩ := Repo.split x
 simp only [List.cons.injEq, and_true, true_and] at e
 obtain ⟨rfl, rfl⟩ := e
 refine CallR.of Tryz.func12 rfl rfl rfl rfl (sr (bo 2 rfl fun E F A f => ?_))
 have h := A.o
 refine Ni rfl (sr (fl f rfl (mi rfl (ca hm (fun _ => p33 (y.ul h)) fun G H hm i => ?_))))
 have a := h.n i
 refine Ni rfl (ssr (mi rfl (Lw.lt rfl (nl (cn hm (fun hm => ?_) fun hm => ?_)))))
 ·exact sr (Ni rfl (.ret (rt hm a)))
 ·refine sk (sr (fl (f.up i) rfl (mi rfl (ca hm (fun _ => p34 (z.ul a)) fun I J hm B => ?_))))
  have k := a.n B
  refine Ni rfl (ssr (mi rfl (Lw.lt rfl (nl (cn hm (fun hm => ?_) fun hm => ?_)))))
  ·exact sr (Ni rfl (.ret (rt hm k)))
  ·exact sk (sr (mi rfl (Ni rfl (.ret (rt hm k)))))
theorem p12 {x0 a b x1 r} (d : Rd W K [a, b] x0) (hm : Vm.laws_heldRepo x0 x1 = some r) : Q1 12 [.agg [a, b].toArray, vI x1] W [] fun W' v => v = vI r :=
 (c12 (d.view _) hm).ad (fk 0) fun _ _ e => e
end Go.Sx
