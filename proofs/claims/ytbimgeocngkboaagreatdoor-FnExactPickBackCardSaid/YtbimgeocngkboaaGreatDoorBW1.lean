/- Walks: each function answers as its model, printed by a program of ours. Conditions: the arguments read as they are given. -/
import Derived.Test.YtbimgeocngkboaaGreatDoorBTs
import Derived.Test.YtbimgeocngkboaaGreatDoorBM0
import Derived.Test.YtbimgeocngkboaaGreatDoorBW0
namespace Go.Sx
open Go Go.Proofs Go.Vm Rp
set_option linter.unusedVariables false
set_option linter.unusedSimpArgs false
variable {W W0 : CW} {K : List Nat}
theorem c19 {x0 ah F r} (h0 : Rd W0 [0] [ah, F] x0) (hm : Vm.spec_l7Ok x0 = some r) : Q0 19 [.agg [ah, F].toArray] W0 fun Wf v => v = vB r := by
 unfold Vm.spec_l7Ok at hm
 obtain ⟨c2, c3, bb, ai, aj⟩ := Repo.split h0
 simp only [List.cons.injEq, and_true, true_and] at bb
 obtain ⟨rfl, rfl⟩ := bb
 refine CallR.of Tryz.func19 rfl rfl rfl rfl (sr (bo 2 rfl fun g1 W1 l1 b1 => ?_))
 have a2 := l1.o
 refine Nb rfl (ssr (Ni rfl (Cw.block ?_)))
 obtain ⟨K8, b2, hm⟩ := jn_e hm
 refine Cw.loop 7 66 [2, 3, 4, 5] (fun m l w => ∃ G H j5 j6 I, CW.w I = w ∧ Le [3] W1 I ∧ l = [vB G, vI H, j5, j6] ∧ Vm.spec_l7Ok_l1 x0 K8 m G H = some r) _ ⟨false, 0, undef, undef, W1, rfl, Le.refl _ _, rfl, hm⟩ ?_
 rintro (_ | m9) _ _ σ ⟨G, H, j5, j6, I, rfl, l7, rfl, hm⟩
 ·cases hm
 unfold Vm.spec_l7Ok_l1 at hm
 have V := a2.t l7
 have am := b1.up l7
 refine ssr ?_
 have an := ai.ul V
 refine mi rfl (fl am rfl (Lw.ln x0.Commits an rfl (Lw.lt rfl (nl (cn hm (fun hm => ?_) fun hm => ?_)))))
 ·refine sk (Cw.seq (Cw.block (sr (fl am rfl (mi rfl ?_)))))
  obtain ⟨ao, bh, hm⟩ := ob hm
  refine Lw.r rfl (R.ix (α := Commit) an bh rfl rfl rfl) ?_
  obtain ⟨x16, c17, _, r18⟩ := (an.at_ bh).cells
  obtain ⟨bi, c6, rfl, r20, r22⟩ := Commit.split r18
  refine Lw.r rfl (R.lda c17 rfl rfl) (al 3 [.slice none 0 0, vS ([] : Str), .slice none 0 0] fun b3 c7 bj b4 => ?_)
  have J := bj.o
  refine sta b4 (oc_cons r20.oc (oc_cons rfl (oc_cons r22.oc oc_nil))) fun bk bl b5 => ?_
  have K := bl.s
  refine nl (ssr (Ni rfl (Cw.block ?_)))
  obtain ⟨b6, b7, hm⟩ := jn_e hm
  refine Cw.loop 19 50 [2, 5] (fun m l w => ∃ L x z, CW.w z = w ∧ Le [] bk z ∧ l = [vB L, vI x] ∧ Vm.spec_l7Ok_l2 H ao b6 m L x = some r) _ ⟨G, 0, bk, rfl, Le.refl _ _, rfl, hm⟩ ?_
  rintro (_ | c8) _ _ σ ⟨L, x, z, rfl, W, rfl, hm⟩
  ·cases hm
  unfold Vm.spec_l7Ok_l2 at hm
  have M := W.o
  have N := b5.up W
  refine ssr ?_
  have bm := r20.ul ((J.trans K).trans M)
  refine mi rfl (fl N rfl (Lw.ln ao.Parents bm rfl (Lw.lt rfl (nl (cn hm (fun hm => ?_) fun hm => ?_)))))
  ·refine sk (Cw.seq (Cw.block ?_))
   obtain ⟨b8, b9, hm⟩ := jn_e hm
   refine Cw.join 26 50 [50] (fun l w => ∃ ap X, CW.w X = w ∧ Le [] z X ∧ l = [vB ap] ∧ b8 ap = some r) ?_ ?_
   ·rintro _ _ σ ⟨ap, X, rfl, bn, rfl, hm⟩
    rw [b9] at hm
    have cb := (((V.trans J).trans K).trans M).n bn
    refine cn hm (fun hm => ?_) fun hm => ?_
    ·exact sr (Nb rfl (.ret (rt hm cb)))
    ·exact sk (rg (mi rfl (Lw.add rfl (Ni rfl ((agm) ⟨L, w64 (x + 1), X, rfl, (W.j bn).w, rfl, hm⟩)))))
   ·refine Cw.draw [] [(0, 0), (1, 1), (2, 0), (3, 0), (4, 1), (5, 0), (6, 0), (7, 2), (8, 0), (9, 0), (10, 0), (11, 0), (12, 0), (13, 0), (14, 1), (15, 0), (16, 0), (17, 1), (18, 0), (19, 1), (20, 0), (21, 1), (22, 0), (23, 0), (24, 0)] mixed (by kernel_rfl) fun c9 O => ?_
    have cc := ((J.trans K).trans M).n O
    have aq := N.up O
    refine Dfl aq rfl rfl rfl (Di rfl ?_)
    obtain ⟨da, ar, hm⟩ := ob hm
    have i := r20.ul cc
    refine Mw.p rfl rfl (fun _ => R.ix (α := Int) i ar rfl rfl rfl) (Mw.q rfl rfl (fun _ c => R.ld rfl rfl (cl_cell (i.at_ ar).1 rfl (i.at_ ar).int c)) (Di rfl (Mw.p rfl rfl (fun _ => R.sub rfl rfl) (Dc hm (Le.refl _ _) (fun _ => p22) rfl ?_))))
    rintro db _ au hm av rfl dc
    refine Mw.p rfl rfl (fun _ => R.not rfl) (Db rfl (bs hm (fun f hm => ?_) fun f hm => ?_))
    ·exact dps 3 f rfl (dpu 10 rfl (dps 1 f rfl (Mw.p rfl rfl (fun _ => R.pk f rfl (v := vB true) rfl) (Mw.nil ((ag) ⟨true, au, rfl, (O.j av).w, rfl, hm⟩)))))
    ·refine Wp f rfl (fun _ => R.mv (v := vI x) rfl) (Wp f rfl (fun _ => R.gt rfl rfl) (Wp f rfl (fun _ => R.mv (v := vB (decide ((0 : Int) < (x : Int)))) rfl) (bs hm (fun d hm => ?_) fun d hm => ?_)))
     ·refine Wp d rfl (fun _ => R.fa rfl) (Wq d rfl (fun _ c => R.ld (v := bi) rfl rfl (aq.clc rfl rfl c)) (Wp d rfl (fun _ => R.mv (v := vI x) rfl) ?_))
      obtain ⟨aw, ax, hm⟩ := ob hm
      refine Wp d rfl (fun _ => R.ix (α := Int) i ax rfl rfl rfl) (Wq d rfl (fun _ c => R.ld rfl rfl (cl_cell (i.at_ ax).1 rfl (i.at_ ax).int c)) (Wp d rfl (fun _ => R.fa rfl) (Wq d rfl (fun _ c => R.ld (v := bi) rfl rfl (aq.clc rfl rfl c)) ?_)))
      obtain ⟨ay, az, hm⟩ := ob hm
      exact Wp d rfl (fun _ => R.ix (α := Int) i az rfl rfl rfl) (Wq d rfl (fun _ c => R.ld rfl rfl (cl_cell (i.at_ az).1 rfl (i.at_ az).int c)) (Wp d rfl (fun _ => R.eq rfl rfl) (Wp f rfl (fun _ => R.pk d rfl (v := vB ((aw : Int) == (ay : Int))) rfl) (Mw.p rfl rfl (fun _ => R.pk f rfl (v := vB ((aw : Int) == (ay : Int))) rfl) (Mw.nil ((ag) ⟨((aw : Int) == (ay : Int)), au, rfl, (O.j av).w, rfl, hm⟩))))))
     ·exact dps 10 d rfl (Wp f rfl (fun _ => R.pk d rfl (v := vB false) rfl) (Mw.p rfl rfl (fun _ => R.pk f rfl (v := vB false) rfl) (Mw.nil ((ag) ⟨false, au, rfl, (O.j av).w, rfl, hm⟩))))
  ·refine Cw.exit ?_
   rw [b7] at hm
   obtain ⟨cd, ce, hm⟩ := jn_e hm
   refine Cw.join 51 66 [66] (fun l w => ∃ a0 Y, CW.w Y = w ∧ Le [] z Y ∧ l = [vB a0] ∧ cd a0 = some r) ?_ ?_
   ·rintro _ _ σ ⟨a0, Y, rfl, bp, rfl, hm⟩
    rw [ce] at hm
    have cf := (((V.trans J).trans K).trans M).n bp
    refine cn hm (fun hm => ?_) fun hm => ?_
    ·exact sr (Nb rfl (.ret (rt hm cf)))
    ·exact sk (rg (mi rfl (Lw.add rfl (Ni rfl ((agm) ⟨L, w64 (H + 1), ptr (bx b3), vI x, Y, rfl, ((((l7.j bj).j bl).j W).j bp).w, rfl, hm⟩)))))
   ·refine rg (fl N rfl (Lw.ln ao.Parents bm rfl (Lw.gt rfl (mb rfl (bs hm (fun P hm => ?_) fun P hm => ?_)))))
    ·exact psk 4 P rfl (Pb P rfl (mb rfl (psk 4 rfl rfl (Pb rfl rfl (nl ((ag) ⟨true, z, rfl, Le.refl _ _, rfl, hm⟩))))))
    ·refine wak 4 P (fl N rfl (ca hm (fun _ => p21) fun dd cg hm Z => ?_))
     have ch := ((J.trans K).trans M).n Z
     refine Lw.r rfl (R.not rfl) (Pb P rfl (mb rfl (bs hm (fun Q hm => ?_) fun Q hm => ?_)))
     ·exact psk 4 Q rfl (Pb Q rfl (nl ((ag) ⟨true, cg, rfl, Z, rfl, hm⟩)))
     ·exact wak 4 Q (fl (N.up Z) rfl (ca hm (fun _ => p40 (r22.ul ch)) fun ci cj hm ck => Lw.r rfl (R.not rfl) (Pb Q rfl (nl ((ag) ⟨(!ci), cj, rfl, (Z.j ck).w, rfl, hm⟩)))))
 ·refine Cw.exit ?_
  rw [b2] at hm
  refine ssr (Ni rfl (Cw.block ?_))
  obtain ⟨cl, cm, hm⟩ := jn_e hm
  refine Cw.loop 67 115 [2, 6] (fun m l w => ∃ aa k y, CW.w y = w ∧ Le [] I y ∧ l = [vB aa, vI k] ∧ Vm.spec_l7Ok_l3 x0 cl m aa k = some r) _ ⟨G, 0, I, rfl, Le.refl _ _, rfl, hm⟩ ?_
  rintro (_ | de) _ _ σ ⟨aa, k, y, rfl, a1, rfl, hm⟩
  ·cases hm
  unfold Vm.spec_l7Ok_l3 at hm
  have A := V.n a1
  have ac := am.up a1
  refine ssr (mi rfl (fl ac rfl (Lw.ln x0.Heads (aj.ul A) rfl (Lw.lt rfl (nl (cn hm (fun hm => ?_) fun hm => ?_))))))
  ·refine sk (Cw.seq (Cw.block ?_))
   obtain ⟨co, cp, hm⟩ := jn_e hm
   refine Cw.join 74 115 [115] (fun l w => ∃ a3 ae, CW.w ae = w ∧ Le [] y ae ∧ l = [vB a3] ∧ co a3 = some r) ?_ ?_
   ·rintro _ _ σ ⟨a3, ae, rfl, bq, rfl, hm⟩
    rw [cp] at hm
    have cq := A.n bq
    refine cn hm (fun hm => ?_) fun hm => ?_
    ·exact sr (Nb rfl (.ret (rt hm cq)))
    ·exact sk (rg (mi rfl (Lw.add rfl (Ni rfl ((agm) ⟨aa, w64 (k + 1), ae, rfl, (a1.j bq).w, rfl, hm⟩)))))
   ·refine Cw.draw [] [(0, 0), (1, 1), (2, 0), (3, 0), (4, 0), (5, 1), (6, 2), (7, 0), (8, 0), (9, 0), (10, 1), (11, 0), (12, 0), (13, 0), (14, 1), (15, 0), (16, 1), (17, 0), (18, 0), (19, 2), (20, 0), (21, 0), (22, 0), (23, 0), (24, 0), (25, 0), (26, 0), (27, 1), (28, 0), (29, 0), (30, 0), (31, 1), (32, 0), (33, 1), (34, 0), (35, 0), (36, 0), (37, 0), (38, 1), (39, 0), (40, 0), (41, 0)] mixed (by kernel_rfl) fun df B => ?_
    have br := A.n B
    have S := ac.up B
    refine Dfl S rfl rfl rfl (Di rfl ?_)
    obtain ⟨dg, a4, hm⟩ := ob hm
    have e := aj.ul br
    refine Mw.p rfl rfl (fun _ => R.ix (α := Head) e a4 rfl rfl rfl) (Df rfl (Mw.q rfl rfl (fun _ c => R.ld rfl rfl (cl_cell (Head.at0 (e.at_ a4)).1 rfl (Head.at0 (e.at_ a4)).str c)) ?_))
    obtain ⟨dh, cs, hm⟩ := ob hm
    refine Mw.t rfl rfl (T.call rfl (p21   cs)) ?_
    rintro _ _ ⟨ct, rfl, C, rfl⟩
    have cu := br.n C
    refine m0 C fun cv => Mw.p rfl rfl (fun _ => R.not rfl) (Db rfl (bs hm (fun b hm => ?_) fun b hm => ?_))
    ·exact dps 12 b rfl (Mw.p rfl rfl (fun _ => R.pk b rfl (v := vB true) rfl) (Db rfl (dps 3 rfl rfl (dpu 14 rfl (dps 1 rfl rfl (Mw.p rfl rfl (fun _ => R.pk rfl rfl (v := vB true) rfl) (Mw.nil ((ag) ⟨true, ct, rfl, (B.j C).w, rfl, hm⟩))))))))
    ·refine Wp b rfl (fun _ => R.fa rfl) (Wq b rfl (fun _ c => R.ld (v := F) rfl rfl (S.clc rfl rfl c)) (Wp b rfl (fun _ => R.mv (v := vI k) rfl) ?_))
     obtain ⟨di, a5, hm⟩ := ob hm
     refine Wp b rfl (fun _ => R.ix (α := Head) e a5 rfl rfl rfl) (Wp b rfl (fun _ => R.fa rfl) (Wq b rfl (fun _ c => R.ld rfl rfl (cl_cell (Head.at1 (e.at_ a5)).1 rfl (Head.at1 (e.at_ a5)).int c)) (Wp b rfl (fun _ => R.fa rfl) (Wq b rfl (fun _ c => R.ld (v := ah) rfl rfl (S.clc rfl rfl c)) (Wp b rfl (fun _ => lenR (xs := x0.Commits) (ai.ul cu) rfl) (Wp b rfl (fun _ => R.sub rfl rfl) ?_))))))
     obtain ⟨cw, cx, hm⟩ := ob hm
     refine Wt b rfl (T.call rfl (p22   cx)) ?_
     rintro _ _ ⟨a6, rfl, af, rfl⟩
     refine mc cv af fun dj => Wp b rfl (fun _ => R.not rfl) (Mw.p rfl rfl (fun _ => R.pk b rfl (v := vB (!cw)) rfl) (Db rfl (bs hm (fun h hm => ?_) fun h hm => ?_)))
     ·exact dps 3 h rfl (dpu 14 rfl (dps 1 h rfl (Mw.p rfl rfl (fun _ => R.pk h rfl (v := vB true) rfl) (Mw.nil ((ag) ⟨true, a6, rfl, ((B.j C).j af).w, rfl, hm⟩)))))
     ·refine Wp h rfl (fun _ => R.mv (v := vI k) rfl) (Wp h rfl (fun _ => R.gt rfl rfl) (Wp h rfl (fun _ => R.mv (v := vB (decide ((0 : Int) < (k : Int)))) rfl) (bs hm (fun a hm => ?_) fun a hm => ?_)))
      ·refine Wp a rfl (fun _ => R.fa rfl) (Wq a rfl (fun _ c => R.ld (v := F) rfl rfl (S.clc rfl rfl c)) (Wp a rfl (fun _ => R.mv (v := vI k) rfl) ?_))
       obtain ⟨D, a7, hm⟩ := ob hm
       refine Wp a rfl (fun _ => R.ix (α := Head) e a7 rfl rfl rfl) (Wp a rfl (fun _ => R.fa rfl) (Wq a rfl (fun _ c => R.ld rfl rfl (cl_cell (Head.at0 (e.at_ a7)).1 rfl (Head.at0 (e.at_ a7)).str c)) (Wp a rfl (fun _ => R.fa rfl) (Wq a rfl (fun _ c => R.ld (v := F) rfl rfl (S.clc rfl rfl c)) (Wp a rfl (fun _ => R.mv (v := vI k) rfl) (Wp a rfl (fun _ => R.sub rfl rfl) ?_))))))
       obtain ⟨E, a8, hm⟩ := ob hm
       exact Wp a rfl (fun _ => R.ix (α := Head) e a8 rfl rfl rfl) (Wp a rfl (fun _ => R.fa rfl) (Wq a rfl (fun _ c => R.ld rfl rfl (cl_cell (Head.at0 (e.at_ a8)).1 rfl (Head.at0 (e.at_ a8)).str c)) (Wp a rfl (fun _ => R.sle rfl rfl) (Wp h rfl (fun _ => R.pk a rfl (v := vB (Op.bytesLess D.Name E.Name || D.Name == E.Name)) rfl) (Mw.p rfl rfl (fun _ => R.pk h rfl (v := vB (Op.bytesLess D.Name E.Name || D.Name == E.Name)) rfl) (Mw.nil ((ag) ⟨(Op.bytesLess D.Name E.Name || D.Name == E.Name), a6, rfl, ((B.j C).j af).w, rfl, hm⟩)))))))
      ·exact dps 14 a rfl (Wp h rfl (fun _ => R.pk a rfl (v := vB false) rfl) (Mw.p rfl rfl (fun _ => R.pk h rfl (v := vB false) rfl) (Mw.nil ((ag) ⟨false, a6, rfl, ((B.j C).j af).w, rfl, hm⟩))))
  ·refine Cw.exit ?_
   rw [cm] at hm
   obtain ⟨cy, cz, hm⟩ := jn_e hm
   refine Cw.join 116 125 [2] (fun l w => ∃ a9 ba, CW.w ba = w ∧ Le [] y ba ∧ l = [vB a9] ∧ cy a9 = some r) ?_ ?_
   ·rintro _ _ σ ⟨a9, ba, rfl, c0, rfl, hm⟩
    rw [cz] at hm
    have c1 := A.n c0
    exact .ret (rt hm c1)
   ·refine rg (fl ac rfl (Lw.ln x0.Commits (ai.ul A) rfl (Lw.le rfl (mb rfl (bs hm (fun U hm => ?_) fun U hm => ?_)))))
    ·exact wak 4 U (fl ac rfl (Lw.ln x0.Heads (aj.ul A) rfl (Lw.le rfl (Pb U rfl (Nb rfl ((ag) ⟨decide (((x0.Heads.length : Int) : Int) ≤ (5 : Int)), y, rfl, Le.refl _ _, rfl, hm⟩))))))
    ·exact psk 4 U rfl (Pb U rfl (Nb rfl ((ag) ⟨false, y, rfl, Le.refl _ _, rfl, hm⟩)))
theorem p19 {x0 a b r} (d : Rd W K [a, b] x0) (hm : Vm.spec_l7Ok x0 = some r) : Q1 19 [.agg [a, b].toArray] W [] fun W' v => v = vB r :=
 (c19 (d.view _) hm).ad (fk 0) fun _ _ e => e
theorem c20 {x0 k x x1 r} (C : Rd W0 [0] [k, x] x0) (hm : Vm.spec_l7At x0 x1 = some r) : Q0 20 [.agg [k, x].toArray, vS x1] W0 fun Wf v => v = vI r := by
 unfold Vm.spec_l7At at hm
 obtain ⟨J, K, y, L, D⟩ := Repo.split C
 simp only [List.cons.injEq, and_true, true_and] at y
 obtain ⟨rfl, rfl⟩ := y
 refine CallR.of Tryz.func20 rfl rfl rfl rfl (sr (bo 2 rfl fun M z E F => ?_))
 have G := E.o
 refine Ni rfl (ssr (Ni rfl (Cw.block ?_)))
 obtain ⟨H, I, hm⟩ := jn_e hm
 refine Cw.loop 6 26 [4, 5] (fun m l w => ∃ b d e, CW.w e = w ∧ Le [] z e ∧ l = [vI b, vI d] ∧ Vm.spec_l7At_l1 x0 x1 H m b d = some r) _ ⟨0, 0, z, rfl, Le.refl _ _, rfl, hm⟩ ?_
 rintro (_ | N) _ _ σ ⟨b, d, e, rfl, f, rfl, hm⟩
 ·cases hm
 unfold Vm.spec_l7At_l1 at hm
 have h := G.n f
 have i := F.up f
 refine ssr ?_
 have a := D.ul h
 refine mi rfl (fl i rfl (Lw.ln x0.Heads a rfl (Lw.lt rfl (nl (cn hm (fun hm => ?_) fun hm => ?_)))))
 ·refine sk (Cw.seq (Cw.block (sr (fl i rfl (mi rfl ?_)))))
  obtain ⟨O, A, hm⟩ := ob hm
  refine Lw.r rfl (R.ix (α := Head) a A rfl rfl rfl) (Lw.fa rfl (Lw.r rfl (R.ld rfl rfl (Head.at0 (a.at_ A)).str) (ms rfl (Lw.seq rfl (nl (cn hm (fun hm => ?_) fun hm => ?_))))))
  ·refine sr (fl i rfl (mi rfl ?_))
   obtain ⟨P, B, hm⟩ := ob hm
   exact Lw.r rfl (R.ix (α := Head) a B rfl rfl rfl) (Lw.fa rfl (Lw.r rfl (R.ld rfl rfl (Head.at1 (a.at_ B)).int) (Ni rfl (.ret (rt hm h)))))
  ·exact sk (rg (mi rfl (Lw.add rfl (Ni rfl ((agm) ⟨b, w64 (d + 1), e, rfl, f, rfl, hm⟩)))))
 ·refine Cw.exit ?_
  rw [I] at hm
  exact sr (Ni rfl (.ret (rt hm h)))
theorem p20 {x0 a b x1 r} (d : Rd W K [a, b] x0) (hm : Vm.spec_l7At x0 x1 = some r) : Q1 20 [.agg [a, b].toArray, vS x1] W [] fun W' v => v = vI r :=
 (c20 (d.view _) hm).ad (fk 0) fun _ _ e => e
theorem c78 {x0 d r} (E : Rd W0 [0] [d] x0) (hm : Vm.spec_l4Copy x0 = some r) : Q0 78 [d] W0 fun Wf v => ∃ F, v = F ∧ OwS Wf LL [] [F] r := by
 unfold Vm.spec_l4Copy at hm
 refine CallR.of Tryz.func78 rfl rfl rfl rfl (sr (Nv (.slice none 0 0) rfl (sr (Lw.t rfl (T.lit0 (α := File) 2 []) ?_))))
 rintro G _ ⟨H, rfl, O, P⟩
 have Q := O.o
 refine Nv G rfl (ssr (Ni rfl (Cw.block ?_)))
 obtain ⟨S, U, hm⟩ := jn_e hm
 refine Cw.loop 6 27 [3, 4] (fun m l w => ∃ y f a h, CW.w h = w ∧ Le [2, 3] H h ∧ l = [a, vI f] ∧ Ow h 2 [] [a] y ∧ Vm.spec_l4Copy_l1 x0 S m y f = some r) _ ⟨([] : List File), 0, G, H, rfl, Le.refl _ _, rfl, P, hm⟩ ?_
 rintro (_ | m9) _ _ σ ⟨y, f, a, h, rfl, I, rfl, K, hm⟩
 ·cases hm
 unfold Vm.spec_l4Copy_l1 at hm
 have z := Q.t I
 refine ssr (mi rfl (mv d rfl (Lw.ln x0 (E.ul z) rfl (Lw.lt rfl (nl (cn hm (fun hm => ?_) fun hm => ?_))))))
 ·refine sk (Cw.seq (Cw.block (Cw.draw [2, 3] [(0, 0), (1, 0), (2, 0), (3, 0), (4, 0), (5, 1), (7, 0), (8, 0), (9, 0), (10, 0), (11, 1), (6, 2), (12, 2), (13, 0), (14, 2), (15, 2), (16, 0)] mixed (by kernel_rfl) fun an A => ?_)))
  have V := z.n A
  refine Dv a rfl (Dv d rfl (Di rfl ?_))
  obtain ⟨e, B, hm⟩ := ob hm
  have b := E.ul V
  refine Mw.p rfl rfl (fun _ => R.ix (α := File) b B rfl rfl rfl) (Df rfl (Mw.q rfl rfl (fun _ c => R.ld rfl rfl (cl_cell (File.at0 (b.at_ B)).1 rfl (File.at0 (b.at_ B)).str c)) (Dv d rfl (Di rfl ?_))))
  obtain ⟨ao, C, hm⟩ := ob hm
  refine Mw.p rfl rfl (fun _ => R.ix (α := File) b C rfl rfl rfl) (Df rfl ?_)
  obtain ⟨ap, c22, r23⟩ := (File.at1 (b.at_ C)).cell rfl
  refine Mw.q rfl rfl (fun _ c => R.ld rfl rfl (cl_cell (File.at1 (b.at_ C)).1 rfl c22 c)) (Mw.t rfl rfl (T.lit0 (α := Str) 3 []) ?_)
  rintro aq _ ⟨ar, rfl, i, W⟩
  have X := i.o
  refine m0 i fun Y => ?_
  obtain ⟨Z, aa, hm⟩ := ob hm
  refine Mw.t rfl rfl (T.appP (α := Str) W (r23.ul X) rfl rfl aa) ?_
  rintro k _ ⟨au, rfl, D, L⟩
  refine mc Y D fun ac => Mw.p rfl rfl (fun _ => R.bd (zs := [vS ([] : Str), .slice none 0 0]) (cs := [vS e.Path, k]) [(0, vS e.Path), (1, k)] rfl rfl rfl (bp_cons rfl rfl (bp_cons L.oc rfl bp_nil))) (Mw.t rfl rfl (T.bs 4 [.agg [vS e.Path, k].toArray] (cs := [vS e.Path, k]) rfl rfl (bsA rfl)) ?_)
  rintro _ _ ⟨av, aw, rfl, rfl, x, ae⟩
  refine mc ac x fun af => ?_
  obtain ⟨ah, ai, hm⟩ := ob hm
  refine Mw.t rfl rfl (T.app1 (α := File) (J := [3]) (K' := []) ((((K.up A).up i).up D).up x) ae (File.own e.Path Z (L.up x).s) rfl rfl ai) ?_
  rintro M _ ⟨aj, rfl, N, ak⟩
  exact mc af N fun ax => Hv M rfl (Mw.nil (rg (mi rfl (Lw.add rfl (Ni rfl ((agm) ⟨ah, w64 (f + 1), M, aj, rfl, (((((I.j A).j i).j D).j x).j N).w, rfl, ak, hm⟩))))))
 ·refine Cw.exit ?_
  rw [U] at hm
  refine sr (mv a rfl (Nv a rfl ?_))
  cases hm
  exact Cw.ret (ret1 rfl (Res.mk z ⟨a, rfl, K.s.sub rfl rfl⟩))
theorem p78 {x0 b k0 r} (d : Rd W K [b] x0) (hm : Vm.spec_l4Copy x0 = some r) : Q1 78 [b] W [] fun W' v => ∃ a, v = a ∧ Ow W' k0 [] [a] r :=
 (c78 (d.view _) hm).ad (fk k0) fun _ _ ⟨a, e, f⟩ => ⟨a, e, f.back (fk_LL _)⟩
theorem c41 {x0 A B r} (I : Rd W0 [0] [A, vS x0.Who, B] x0) (hm : Vm.spec_l7CopyCommit x0 = some r) : Q0 41 [.agg [A, vS x0.Who, B].toArray] W0 fun Wf v => ∃ C D, v = .agg [C, vS r.Who, D].toArray ∧ OwS Wf [31] [] [C] r.Parents ∧ OwS Wf [32] [] [D] r.Tree := by
 unfold Vm.spec_l7CopyCommit at hm
 obtain ⟨am, an, E, J, K⟩ := Commit.split I
 simp only [List.cons.injEq, and_true, true_and] at E
 obtain ⟨rfl, rfl⟩ := E
 refine CallR.of Tryz.func41 rfl rfl rfl rfl (sr (bo 2 rfl fun g1 W1 L M => ?_))
 have N := L.o
 refine al 3 [.slice none 0 0, vS ([] : Str), .slice none 0 0] fun g3 W3 F O => ?_
 have P := N.n F
 refine nl (Cw.seq (Cw.draw [4] [(1, 0), (2, 1), (4, 0), (5, 1), (6, 0), (7, 1), (0, 2), (3, 2), (8, 2), (9, 0), (10, 3)] mixed (by kernel_rfl) fun W6 e => ?_))
 have Q := P.n e
 have f := (M.up F).up e
 refine Dfl f rfl rfl rfl (Dfl f rfl rfl rfl (Dfl f rfl rfl rfl (Mw.t rfl rfl (T.lit0 (α := Int) 4 []) ?_)))
 rintro av _ ⟨aw, rfl, l10, S⟩
 have G := Q.n l10
 refine m0 l10 fun U => ?_
 obtain ⟨ax, V, hm⟩ := ob hm
 refine Mw.t rfl rfl (T.appP (α := Int) S (J.ul G) rfl rfl V) ?_
 rintro a _ ⟨ay, rfl, h, W⟩
 have H := G.t h
 refine mc U h fun X => ?_
 obtain ⟨az, Y, hm⟩ := ob hm
 refine Mw.t rfl rfl (T.call rfl (p78 (k0 := 5) (K.ul H) Y)) ?_
 rintro b _ ⟨a0, rfl, d, ⟨_, rfl, i⟩⟩
 have Z := H.n d
 have k := W.up d
 refine mc X d fun a1 => Mw.p rfl rfl (fun _ => R.bd (zs := [.slice none 0 0, vS ([] : Str), .slice none 0 0]) (cs := [a, vS x0.Who, b]) [(0, a), (1, vS x0.Who), (2, b)] rfl rfl rfl (bp_cons k.oc rfl (bp_cons rfl rfl (bp_cons i.oc rfl bp_nil)))) (Mw.lu rfl (T.sta (vs := [a, vS x0.Who, b]) ((((O.up e).up l10).up h).up d) rfl rfl (oc_cons k.oc (oc_cons rfl (oc_cons i.oc oc_nil))) rfl rfl) ?_)
 rintro _ _ ⟨a3, rfl, x, aa⟩
 have ac := Z.t x
 refine Mw.nil ?_
 obtain ⟨a5, ae, y, af⟩ := (k.up x).dyeO 31
 have ah := ac.t y
 obtain ⟨a6, ai, z, aj⟩ := ((i.up x).up y).dyeO 32
 have ak := ah.t z
 cases hm
 rw [← ai.trans (ae)]
 exact Cw.ret (retA1 rfl ((aa.up y).up z) (Res.mk ak ⟨a, b, rfl, (af.up z).s, aj.s⟩))
theorem p41 {x0 d f k0 k1 r} (h : Rd W K [d, vS x0.Who, f] x0) (hm : Vm.spec_l7CopyCommit x0 = some r) : Q1 41 [.agg [d, vS x0.Who, f].toArray] W [] fun W' v => ∃ a b, v = .agg [a, vS r.Who, b].toArray ∧ Ow W' k0 [] [a] r.Parents ∧ Ow W' k1 [] [b] r.Tree :=
 CallR.adJ (J := []) (fun c => bif Nat.beq c 0 then 0 else bif Nat.beq c 31 then k0 else bif Nat.beq c 32 then k1 else 0) (c41 (h.view _) hm) fun _ _ ⟨a, b, e, i, k⟩ => ⟨a, b, e, i.one1.backN rfl, k.one1.backN rfl⟩
theorem c23 {x0 W X r} (h0 : Rd W0 [0] [W, X] x0) (hm : Vm.spec_l7Copy x0 = some r) : Q0 23 [.agg [W, X].toArray] W0 fun Wf v => ∃ Y Z, v = .agg [Y, Z].toArray ∧ OwS Wf [31] [] [Y] r.Commits ∧ OwS Wf [32] [] [Z] r.Heads := by
 unfold Vm.spec_l7Copy at hm
 obtain ⟨b2, b4, aa, ac, aq⟩ := Repo.split h0
 simp only [List.cons.injEq, and_true, true_and] at aa
 obtain ⟨rfl, rfl⟩ := aa
 refine CallR.of Tryz.func23 rfl rfl rfl rfl (sr (bo 2 rfl fun g1 W1 l1 b1 => ?_))
 have a2 := l1.o
 refine al 3 [.slice none 0 0, .slice none 0 0] fun g3 W3 l3 b3 => ?_
 have a4 := a2.n l3
 refine nl (sr (Lw.t rfl (T.lit0 (α := Head) 4 []) ?_))
 rintro v6 _ ⟨W6, rfl, C, o6⟩
 have a7 := a4.n C
 have b8 := (b1.up l3).up C
 refine fl b8 rfl ?_
 obtain ⟨az, a0, hm⟩ := ob hm
 refine Lw.t rfl (T.appP (α := Head) o6 (aq.ul a7) rfl rfl a0) ?_
 rintro D _ ⟨cd, rfl, E, F⟩
 have a1 := a7.t E
 refine Lw.r rfl (R.bd (zs := [.slice none 0 0, .slice none 0 0]) (cs := [.slice none 0 0, D]) [(1, D)] rfl rfl rfl (bp_cons F.oc rfl bp_nil)) (al 5 [.slice none 0 0, .slice none 0 0] fun a3 ce e a5 => ?_)
 have a6 := a1.n e
 refine sta a5 (oc_cons rfl (oc_cons (F.up e).oc oc_nil)) fun ai i a8 => ?_
 have a9 := a6.t i
 refine nl (ssr (Ni rfl (Cw.block ?_)))
 obtain ⟨ba, bb, hm⟩ := jn_e hm
 refine Cw.loop 10 27 [4] (fun m l w => ∃ k G x y f d, CW.w d = w ∧ Le [5, 6, 7, 8] ai d ∧ l = [vI k] ∧ Ow d 6 [] [y] G ∧ Ow d 4 [] [f] x ∧ Bx d 5 a3 [y, f] ∧ Vm.spec_l7Copy_l1 x0 ba m k G x = some r) _ ⟨0, ([] : List Commit), az, .slice none 0 0, D, ai, rfl, Le.refl _ _, rfl, owN 6 [], ((F.up e).up i), a8, hm⟩ ?_
 rintro (_ | cf) _ _ σ ⟨k, G, x, y, f, d, rfl, z, rfl, H, I, L, hm⟩
 ·cases hm
 unfold Vm.spec_l7Copy_l1 at hm
 have M := a9.t z
 have aj := (((b8.up E).up e).up i).up z
 refine ssr (mi rfl (fl aj rfl (Lw.ln x0.Commits (ac.ul M) rfl (Lw.lt rfl (nl (cn hm (fun hm => ?_) fun hm => ?_))))))
 ·refine sk (Cw.seq (Cw.block (Cw.draw [6, 7, 8] [(0, 0), (1, 1), (2, 0), (3, 1), (4, 0), (5, 0), (6, 1), (7, 2), (8, 2), (9, 2), (10, 0), (11, 3)] mixed (by kernel_rfl) fun cg a => ?_)))
  have bc := M.n a
  refine Dfl (L.up a) rfl rfl rfl (Dfl (aj.up a) rfl rfl rfl (Di rfl ?_))
  obtain ⟨N, O, hm⟩ := ob hm
  have P := ac.ul bc
  refine Mw.p rfl rfl (fun _ => R.ix (α := Commit) P O rfl rfl rfl) ?_
  obtain ⟨x53, c54, _, r55⟩ := (P.at_ O).cells
  obtain ⟨ch, ci, rfl, r57, r59⟩ := Commit.split r55
  refine Mw.q rfl rfl (fun _ c => R.lda (cl_cells (P.at_ O).1 rfl c54 c) rfl rfl) (Dc hm (Le.refl _ _) (fun _ => p41 (k0 := 7) (k1 := 8) (Commit.rd (K := [0]) N.Parents N.Who N.Tree r57 r59)) rfl ?_)
  rintro h _ cj hm A ⟨ak, am, rfl, be, bg⟩ bh
  refine Mw.t rfl rfl (T.bs 9 [.agg [ak, vS h.Who, am].toArray] (cs := [ak, vS h.Who, am]) rfl rfl (bsA rfl)) ?_
  rintro _ _ ⟨ck, cl, rfl, rfl, b, bi⟩
  refine mc bh b fun bj => ?_
  obtain ⟨bk, bl, hm⟩ := ob hm
  refine Mw.t rfl rfl (T.app1 (α := Commit) (J := [7, 8]) (K' := []) (((H.up a).up A).up b) bi (Commit.own h.Parents h.Who h.Tree (be.up b).s (bg.up b).s) rfl rfl bl) ?_
  rintro an _ ⟨cm, rfl, B, ao⟩
  refine mc bj B fun co => Df rfl (Mw.lu rfl (T.st (j := 0) (v := an) ((((L.up a).up A).up b).up B) rfl rfl ao.oc rfl rfl) ?_)
  rintro _ _ ⟨bm, rfl, Q, bn⟩
  exact Mw.nil (rg (mi rfl (Lw.add rfl (Ni rfl ((agm) ⟨w64 (k + 1), bk, x, an, f, bm, rfl, (((((z.j a).j A).j b).j B).j Q).w, rfl, (ao.up Q), (((((I.up a).up A).up b).up B).up Q), bn, hm⟩)))))
 ·refine Cw.exit ?_
  rw [bb] at hm
  refine sr (la L (sta (((((b3.up C).up E).up e).up i).up z) (oc_cons H.oc (oc_cons I.oc oc_nil)) fun cp S bp => ?_))
  have bq := M.t S
  refine nl ?_
  obtain ⟨cq, br, U, bu⟩ := (H.up S).dyeO 31
  have bv := bq.t U
  obtain ⟨ct, bw, V, bz⟩ := ((I.up S).up U).dyeO 32
  have b0 := bv.t V
  cases hm
  rw [← bw.trans (br)]
  exact Cw.ret (retA1 rfl ((bp.up U).up V) (Res.mk b0 ⟨y, f, rfl, (bu.up V).s, bz.s⟩))
theorem p23 {x0 d f k0 k1 r} (h : Rd W K [d, f] x0) (hm : Vm.spec_l7Copy x0 = some r) : Q1 23 [.agg [d, f].toArray] W [] fun W' v => ∃ a b, v = .agg [a, b].toArray ∧ Ow W' k0 [] [a] r.Commits ∧ Ow W' k1 [] [b] r.Heads :=
 CallR.adJ (J := []) (fun c => bif Nat.beq c 0 then 0 else bif Nat.beq c 31 then k0 else bif Nat.beq c 32 then k1 else 0) (c23 (h.view _) hm) fun _ _ ⟨a, b, e, i, k⟩ => ⟨a, b, e, i.one1.backN rfl, k.one1.backN rfl⟩
theorem c36 {x0 k x x1 r} (D : Rd W0 [0] [k, x] x0) (hm : Vm.spec_l10Ahead x0 x1 = some r) : Q0 36 [.agg [k, x].toArray, vI x1] W0 fun Wf v => ∃ y, v = y ∧ Rd Wf [0] [y] r := by
 unfold Vm.spec_l10Ahead at hm
 obtain ⟨G, H, z, d, I⟩ := Repo.split D
 simp only [List.cons.injEq, and_true, true_and] at z
 obtain ⟨rfl, rfl⟩ := z
 refine CallR.of Tryz.func36 rfl rfl rfl rfl (sr (bo 2 rfl fun J L E e => ?_))
 have b := E.o
 refine Nv (.slice none 0 0) rfl (ssr (fl e rfl (mi rfl ?_)))
 obtain ⟨F, A, hm⟩ := ob hm
 refine Lw.r rfl (R.ix (α := Commit) (d.ul b) A rfl rfl rfl) (Lw.fa rfl ?_)
 obtain ⟨M, c7, r8⟩ := (Commit.at0 ((d.ul b).at_ A)).cell rfl
 refine Lw.r rfl (R.ld rfl rfl c7) (Lw.ln F.Parents r8 rfl (Lw.eq rfl (nl (cn hm (fun hm => ?_) fun hm => ?_))))
 ·refine sr (Nv (.slice none 0 0) rfl ?_)
  cases hm
  exact Cw.ret (ret1 rfl (Res.mk b ⟨.slice none 0 0, rfl, (rdN (K := [0]))⟩))
 ·refine sk (Cw.seq (Cw.draw [] [(0, 0), (1, 1), (2, 0), (3, 1), (4, 0), (5, 0), (6, 0), (7, 1), (8, 0), (9, 1), (10, 0), (11, 0), (12, 1), (13, 0)] mixed (by kernel_rfl) fun N l10 => ?_))
  have B := b.n l10
  refine Dfl (e.up l10) rfl rfl rfl (Dfl (e.up l10) rfl rfl rfl (Di rfl ?_))
  obtain ⟨O, f, hm⟩ := ob hm
  have a := d.ul B
  refine Mw.p rfl rfl (fun _ => R.ix (α := Commit) a f rfl rfl rfl) (Df rfl ?_)
  obtain ⟨P, c17, r18⟩ := (Commit.at0 (a.at_ f)).cell rfl
  refine Mw.q rfl rfl (fun _ c => R.ld rfl rfl (cl_cell (Commit.at0 (a.at_ f)).1 rfl c17 c)) ?_
  obtain ⟨Q, h, hm⟩ := ob hm
  refine Mw.p rfl rfl (fun _ => R.ix (α := Int) r18 h rfl rfl rfl) (Mw.q rfl rfl (fun _ c => R.ld rfl rfl (cl_cell (r18.at_ h).1 rfl (r18.at_ h).int c)) ?_)
  obtain ⟨S, i, hm⟩ := ob hm
  refine Mw.p rfl rfl (fun _ => R.ix (α := Commit) a i rfl rfl rfl) (Df rfl ?_)
  obtain ⟨C, c24, r25⟩ := (Commit.at2 (a.at_ i)).cell rfl
  refine Mw.q rfl rfl (fun _ c => R.ld rfl rfl (cl_cell (Commit.at2 (a.at_ i)).1 rfl c24 c)) (Hv C rfl (Mw.nil ?_))
  cases hm
  exact Cw.ret (ret1 rfl (Res.mk B ⟨C, rfl, r25⟩))
theorem p36 {x0 b d x1 r} (f : Rd W K [b, d] x0) (hm : Vm.spec_l10Ahead x0 x1 = some r) : Q1 36 [.agg [b, d].toArray, vI x1] W [] fun W' v => ∃ a, v = a ∧ Rd W' (0 :: K) [a] r :=
 (c36 (f.view _) hm).ad (fk 0) fun _ _ ⟨a, e, h⟩ => ⟨a, e, h.back rfl⟩
theorem c114 {x0 a x1 r} (b : Rd W0 [0] [a] x0) (hm : Vm.spec_l5Put x0 x1 = some r) : Q0 114 [a, vS x1] W0 fun Wf v => ∃ F, v = F ∧ Rd Wf [0] [F] r := by
 unfold Vm.spec_l5Put at hm
 refine CallR.of Tryz.func114 rfl rfl rfl rfl (sr (Nv (.slice none 0 0) rfl (sr (Ni rfl (Cw.seq (Cw.block ?_))))))
 obtain ⟨Q, S, hm⟩ := jn_e hm
 refine Cw.loop 7 20 [5] (fun m l w => ∃ i e, CW.w e = w ∧ Le [] W0 e ∧ l = [vI i] ∧ Vm.spec_l5Put_l1 x0 x1 Q m i = some r) _ ⟨0, W0, rfl, Le.refl _ _, rfl, hm⟩ ?_
 rintro (_ | m4) _ _ σ ⟨i, e, rfl, G, rfl, hm⟩
 ·cases hm
 unfold Vm.spec_l5Put_l1 at hm
 have k := G.o
 refine Cw.seq ?_
 obtain ⟨U, V, hm⟩ := jn_e hm
 refine Cw.join 7 18 [18] (fun l w => ∃ y d, CW.w d = w ∧ Le [] e d ∧ l = [vB y] ∧ U y = some r) ?_ ?_
 ·rintro _ _ σ ⟨y, d, rfl, H, rfl, hm⟩
  rw [V] at hm
  have x := k.n H
  refine cn hm (fun hm => ?_) fun hm => ?_
  ·exact sk (Cw.block (rg (mi rfl (Lw.add rfl (Ni rfl ((agm) ⟨w64 (i + 1), d, rfl, (G.j H).w, rfl, hm⟩))))))
  ·refine Cw.exit ?_
   rw [S] at hm
   refine Cw.seq ?_
   obtain ⟨W, X, hm⟩ := jn_e hm
   refine Cw.join 21 32 [32] (fun l w => ∃ z A, CW.w A = w ∧ Le [] d A ∧ l = [vB z] ∧ W z = some r) ?_ ?_
   ·rintro _ _ σ ⟨z, A, rfl, Y, rfl, hm⟩
    rw [X] at hm
    have B := x.n Y
    refine cn hm (fun hm => ?_) fun hm => ?_
    ·refine sr (mv a rfl (Nv a rfl ?_))
     cases hm
     exact Cw.ret (ret1 rfl (Res.mk B ⟨a, rfl, (b.ul B)⟩))
    ·refine sk (sr (Lw.t rfl (T.lit0 (α := Str) 2 []) ?_))
     rintro a4 _ ⟨a6, rfl, Z, aa⟩
     have C := B.n Z
     refine mv a rfl (mi rfl ?_)
     obtain ⟨a7, I, hm⟩ := ob hm
     have r23 := (b.ul C).cutV I
     refine Lw.r rfl (R.sl (b.ul C) I rfl (.inl ⟨rfl, rfl⟩) (.inr rfl)) ?_
     obtain ⟨a8, ac, hm⟩ := ob hm
     refine Lw.t rfl (T.appP (α := Str) aa r23 rfl rfl ac) ?_
     rintro J _ ⟨ba, rfl, ae, af⟩
     have ah := C.t ae
     refine Nv J rfl (sr (mv J rfl (ms rfl (Lw.t rfl (T.bs 3 [vS x1] (cs := [vS x1]) rfl rfl (bsv rfl)) ?_))))
     rintro _ _ ⟨bb, bc, rfl, rfl, K, ai⟩
     have aj := ah.n K
     obtain ⟨be, ak, hm⟩ := ob hm
     refine Lw.t rfl (T.app1S (α := Str) (K' := []) (af.up K) ai (rdS _) rfl rfl ak) ?_
     rintro L _ ⟨bg, rfl, am, an⟩
     have D := aj.t am
     refine Nv L rfl (sr (mv L rfl (mv a rfl (mi rfl ?_))))
     obtain ⟨bh, N, hm⟩ := ob hm
     have r40 := (b.ul D).cutV N
     refine Lw.r rfl (R.sl (b.ul D) N rfl (.inr rfl) (.inl ⟨rfl, rfl⟩)) ?_
     obtain ⟨ao, ap, hm⟩ := ob hm
     refine Lw.t rfl (T.appP (α := Str) an r40 rfl rfl ap) ?_
     rintro E _ ⟨bi, rfl, aq, ar⟩
     have au := D.t aq
     refine Nv E rfl ?_
     obtain ⟨av, aw, ax, ay⟩ := dyeE _ 2
     have az : Rd (α := List Str) av [0] [E] ao := by rw [ay]; exact (ar.rd.dye 2).sub (M := [0]) rfl
     have a0 := au.t ax
     cases hm
     rw [← aw]
     exact Cw.ret (ret1 rfl (Res.mk a0 ⟨E, rfl, az⟩))
   ·refine rg (mi rfl (mv a rfl (Lw.ln x0 (b.ul x) rfl (Lw.lt rfl (mb rfl (bs hm (fun f hm => ?_) fun f hm => ?_))))))
    ·refine wak 6 f (mv a rfl (mi rfl ?_))
     obtain ⟨a1, O, hm⟩ := ob hm
     exact Lw.r rfl (R.ix (α := Str) (b.ul x) O rfl rfl rfl) (Lw.r rfl (R.ld rfl rfl ((b.ul x).at_ O).str) (ms rfl (Lw.seq rfl (Pb f rfl (nl ((ag) ⟨(a1 == x1), d, rfl, Le.refl _ _, rfl, hm⟩))))))
    ·exact psk 6 f rfl (Pb f rfl (nl ((ag) ⟨false, d, rfl, Le.refl _ _, rfl, hm⟩)))
 ·refine rg (mi rfl (mv a rfl (Lw.ln x0 (b.ul k) rfl (Lw.lt rfl (mb rfl (bs hm (fun h hm => ?_) fun h hm => ?_))))))
  ·refine wak 6 h (mv a rfl (mi rfl ?_))
   obtain ⟨a2, P, hm⟩ := ob hm
   exact Lw.r rfl (R.ix (α := Str) (b.ul k) P rfl rfl rfl) (Lw.r rfl (R.ld rfl rfl ((b.ul k).at_ P).str) (ms rfl (Lw.r rfl (R.slt rfl rfl) (Pb h rfl (nl ((ag) ⟨Op.bytesLess a2 x1, e, rfl, Le.refl _ _, rfl, hm⟩))))))
  ·exact psk 6 h rfl (Pb h rfl (nl ((ag) ⟨false, e, rfl, Le.refl _ _, rfl, hm⟩)))
theorem p114 {x0 b x1 r} (d : Rd W K [b] x0) (hm : Vm.spec_l5Put x0 x1 = some r) : Q1 114 [b, vS x1] W [] fun W' v => ∃ a, v = a ∧ Rd W' (0 :: K) [a] r :=
 (c114 (d.view _) hm).ad (fk 0) fun _ _ ⟨a, e, f⟩ => ⟨a, e, f.back rfl⟩
theorem c99 {x0 h x1 i x2 k r} (G : Rd W0 [0] [h] x0) (H : Rd W0 [0] [i] x1) (I : Rd W0 [0] [k] x2) (hm : Vm.spec_l6Paths x0 x1 x2 = some r) : Q0 99 [h, i, k] W0 fun Wf v => ∃ N, v = N ∧ Rd Wf [0] [N] r := by
 unfold Vm.spec_l6Paths at hm
 refine CallR.of Tryz.func99 rfl rfl rfl rfl (sr (Nv (.slice none 0 0) rfl (sr (Lw.t rfl (T.lit0 (α := Str) 2 []) ?_))))
 rintro J _ ⟨W1, rfl, Y, Z⟩
 have a2 := Y.o
 refine Nv J rfl (ssr (Ni rfl (Cw.block ?_)))
 obtain ⟨K, ac, l3, af⟩ := dyeE _ 2
 rw [← ac]
 have s4 : Rd (α := List Str) K [0] [J] ([] : List Str) := by rw [af]; exact (Z.rd.dye 2).sub (M := [0]) rfl
 have a5 := a2.t l3
 obtain ⟨aj, ak, hm⟩ := jn_e hm
 refine Cw.loop 12 24 [7, 8] (fun m l w => ∃ x y e b, CW.w b = w ∧ Le [] K b ∧ l = [e, vI y] ∧ Rd b [0] [e] x ∧ Vm.spec_l6Paths_l1 x0 aj m x y = some r) _ ⟨([] : List Str), 0, J, K, rfl, Le.refl _ _, rfl, s4, hm⟩ ?_
 rintro (_ | ba) _ _ σ ⟨x, y, e, b, rfl, l10, rfl, r8, hm⟩
 ·cases hm
 unfold Vm.spec_l6Paths_l1 at hm
 have z := a5.n l10
 refine ssr (mi rfl (mv h rfl (Lw.ln x0 (G.ul z) rfl (Lw.lt rfl (nl (cn hm (fun hm => ?_) fun hm => ?_))))))
 ·refine sk (Cw.seq (Cw.block (rg (mv e rfl (mv h rfl (mi rfl ?_))))))
  obtain ⟨bb, O, hm⟩ := ob hm
  refine Lw.r rfl (R.ix (α := File) (G.ul z) O rfl rfl rfl) (Lw.fa rfl (Lw.r rfl (R.ld rfl rfl (File.at0 ((G.ul z).at_ O)).str) (cr hm (fun _ => p114 r8) ?_)))
  rintro am P an hm ao ⟨_, rfl, ap⟩
  have aq := ap.sub (M := [0]) rfl
  exact Nv P rfl (rg (mi rfl (Lw.add rfl (Ni rfl ((agm) ⟨am, w64 (y + 1), P, an, rfl, (l10.j ao).w, rfl, aq, hm⟩)))))
 ·refine Cw.exit ?_
  rw [ak] at hm
  refine ssr (Ni rfl (Cw.block ?_))
  obtain ⟨ar, au, hm⟩ := jn_e hm
  refine Cw.loop 25 37 [7, 9] (fun m l w => ∃ A B f d, CW.w d = w ∧ Le [] b d ∧ l = [f, vI B] ∧ Rd d [0] [f] A ∧ Vm.spec_l6Paths_l2 x1 ar m A B = some r) _ ⟨x, 0, e, b, rfl, Le.refl _ _, rfl, r8, hm⟩ ?_
  rintro (_ | bc) _ _ σ ⟨A, B, f, d, rfl, Q, rfl, r25, hm⟩
  ·cases hm
  unfold Vm.spec_l6Paths_l2 at hm
  have C := z.n Q
  refine ssr (mi rfl (mv i rfl (Lw.ln x1 (H.ul C) rfl (Lw.lt rfl (nl (cn hm (fun hm => ?_) fun hm => ?_))))))
  ·refine sk (Cw.seq (Cw.block (rg (mv f rfl (mv i rfl (mi rfl ?_))))))
   obtain ⟨be, S, hm⟩ := ob hm
   refine Lw.r rfl (R.ix (α := File) (H.ul C) S rfl rfl rfl) (Lw.fa rfl (Lw.r rfl (R.ld rfl rfl (File.at0 ((H.ul C).at_ S)).str) (cr hm (fun _ => p114 r25) ?_)))
   rintro av U aw hm ax ⟨_, rfl, ay⟩
   have az := ay.sub (M := [0]) rfl
   exact Nv U rfl (rg (mi rfl (Lw.add rfl (Ni rfl ((agm) ⟨av, w64 (B + 1), U, aw, rfl, (Q.j ax).w, rfl, az, hm⟩)))))
  ·refine Cw.exit ?_
   rw [au] at hm
   refine ssr (Ni rfl (Cw.block ?_))
   obtain ⟨a0, a1, hm⟩ := jn_e hm
   refine Cw.loop 38 50 [7, 10] (fun m l w => ∃ L D a E, CW.w E = w ∧ Le [] d E ∧ l = [a, vI D] ∧ Rd E [0] [a] L ∧ Vm.spec_l6Paths_l3 x2 a0 m L D = some r) _ ⟨A, 0, f, d, rfl, Le.refl _ _, rfl, r25, hm⟩ ?_
   rintro (_ | bg) _ _ σ ⟨L, D, a, E, rfl, V, rfl, r42, hm⟩
   ·cases hm
   unfold Vm.spec_l6Paths_l3 at hm
   have F := C.n V
   refine ssr (mi rfl (mv k rfl (Lw.ln x2 (I.ul F) rfl (Lw.lt rfl (nl (cn hm (fun hm => ?_) fun hm => ?_))))))
   ·refine sk (Cw.seq (Cw.block (rg (mv a rfl (mv k rfl (mi rfl ?_))))))
    obtain ⟨bh, W, hm⟩ := ob hm
    refine Lw.r rfl (R.ix (α := File) (I.ul F) W rfl rfl rfl) (Lw.fa rfl (Lw.r rfl (R.ld rfl rfl (File.at0 ((I.ul F).at_ W)).str) (cr hm (fun _ => p114 r42) ?_)))
    rintro a3 X a4 hm a6 ⟨_, rfl, a7⟩
    have a8 := a7.sub (M := [0]) rfl
    exact Nv X rfl (rg (mi rfl (Lw.add rfl (Ni rfl ((agm) ⟨a3, w64 (D + 1), X, a4, rfl, (V.j a6).w, rfl, a8, hm⟩)))))
   ·refine Cw.exit ?_
    rw [a1] at hm
    refine sr (mv a rfl (Nv a rfl ?_))
    cases hm
    exact Cw.ret (ret1 rfl (Res.mk F ⟨a, rfl, r42⟩))
theorem p99 {x0 b x1 d x2 f r} (h : Rd W K [b] x0) (i : Rd W K [d] x1) (k : Rd W K [f] x2) (hm : Vm.spec_l6Paths x0 x1 x2 = some r) : Q1 99 [b, d, f] W [] fun W' v => ∃ a, v = a ∧ Rd W' (0 :: K) [a] r :=
 (c99 (h.view _) (i.view _) (k.view _) hm).ad (fk 0) fun _ _ ⟨a, e, x⟩ => ⟨a, e, x.back rfl⟩
theorem c115 {x0 a x1 r} (C : Rd W0 [0] [a] x0) (hm : Vm.spec_l4Get x0 x1 = some r) : Q0 115 [a, vS x1] W0 fun Wf v => ∃ x, v = .tuple [x, vB r.2].toArray ∧ Rd Wf [0] [x] r.1 := by
 unfold Vm.spec_l4Get at hm
 refine CallR.of Tryz.func115 rfl rfl rfl rfl (sr (Gv (.slice none 0 0) rfl (Nb rfl (ssr (Ni rfl (Cw.block ?_))))))
 obtain ⟨D, E, hm⟩ := jn_e hm
 refine Cw.loop 7 24 [4, 5, 6] (fun m l w => ∃ e f h i b, CW.w b = w ∧ Le [] W0 b ∧ l = [i, vB f, vI h] ∧ Ow b 2 [] [i] e ∧ Vm.spec_l4Get_l1 x0 x1 D m e f h = some r) _ ⟨([] : List Str), false, 0, .slice none 0 0, W0, rfl, Le.refl _ _, rfl, owN 2 [], hm⟩ ?_
 rintro (_ | G) _ _ σ ⟨e, f, h, i, b, rfl, y, rfl, F, hm⟩
 ·cases hm
 unfold Vm.spec_l4Get_l1 at hm
 have k := y.o
 refine ssr ?_
 have d := C.ul k
 refine mi rfl (mv a rfl (Lw.ln x0 d rfl (Lw.lt rfl (nl (cn hm (fun hm => ?_) fun hm => ?_)))))
 ·refine sk (Cw.seq (Cw.block (sr (mv a rfl (mi rfl ?_)))))
  obtain ⟨H, z, hm⟩ := ob hm
  refine Lw.r rfl (R.ix (α := File) d z rfl rfl rfl) (Lw.fa rfl (Lw.r rfl (R.ld rfl rfl (File.at0 (d.at_ z)).str) (ms rfl (Lw.seq rfl (nl (cn hm (fun hm => ?_) fun hm => ?_))))))
  ·refine sr (mv a rfl (mi rfl ?_))
   obtain ⟨I, A, hm⟩ := ob hm
   refine Lw.r rfl (R.ix (α := File) d A rfl rfl rfl) (Lw.fa rfl ?_)
   obtain ⟨B, c18, r19⟩ := (File.at1 (d.at_ A)).cell rfl
   refine Lw.r rfl (R.ld rfl rfl c18) (Gv B rfl (Nb rfl ?_))
   cases hm
   exact Cw.ret (ret2 rfl rfl (Res.mk k ⟨B, rfl, r19⟩))
  ·exact sk (rg (mi rfl (Lw.add rfl (Ni rfl ((agm) ⟨e, f, w64 (h + 1), i, b, rfl, y, rfl, F, hm⟩)))))
 ·refine Cw.exit ?_
  rw [E] at hm
  refine sr (Gv (.slice none 0 0) rfl (Nb rfl ?_))
  cases hm
  exact Cw.ret (ret2 rfl rfl (Res.mk k ⟨.slice none 0 0, rfl, (rdN (K := [0]))⟩))
theorem p115 {x0 b x1 r} (d : Rd W K [b] x0) (hm : Vm.spec_l4Get x0 x1 = some r) : Q1 115 [b, vS x1] W [] fun W' v => ∃ a, v = .tuple [a, vB r.2].toArray ∧ Rd W' (0 :: K) [a] r.1 :=
 (c115 (d.view _) hm).ad (fk 0) fun _ _ ⟨a, e, f⟩ => ⟨a, e, f.back rfl⟩
theorem c130 {x0 b x1 e r} (d : Rd W0 [0] [b] x0) (f : Rd W0 [0] [e] x1) (hm : Vm.spec_l1Same x0 x1 = some r) : Q0 130 [b, e] W0 fun Wf v => v = vB r := by
 unfold Vm.spec_l1Same at hm
 refine CallR.of Tryz.func130 rfl rfl rfl rfl (sr (Nb rfl (ssr (mv b rfl (Lw.ln x0 d rfl (mv e rfl (Lw.ln x1 f rfl (Lw.ne rfl (nl (cn hm (fun hm => ?_) fun hm => ?_))))))))))
 ·exact sr (Nb rfl (.ret (rt hm (Le.refl _ _))))
 ·refine sk (ssr (Ni rfl (Cw.block ?_)))
  obtain ⟨B, C, hm⟩ := jn_e hm
  refine Cw.loop 11 25 [4, 5] (fun m l w => ∃ h i k, CW.w k = w ∧ Le [] W0 k ∧ l = [vB h, vI i] ∧ Vm.spec_l1Same_l1 x0 x1 B m h i = some r) _ ⟨false, 0, W0, rfl, Le.refl _ _, rfl, hm⟩ ?_
  rintro (_ | E) _ _ σ ⟨h, i, k, rfl, A, rfl, hm⟩
  ·cases hm
  unfold Vm.spec_l1Same_l1 at hm
  have x := A.o
  refine ssr (mi rfl (mv b rfl (Lw.ln x0 (d.ul x) rfl (Lw.lt rfl (nl (cn hm (fun hm => ?_) fun hm => ?_))))))
  ·refine sk (Cw.seq (Cw.block (Cw.seq (Cw.draw [] [(0, 0), (1, 0), (2, 0), (3, 1), (4, 0), (5, 0), (6, 0), (7, 1), (8, 0)] mixed (by kernel_rfl) fun D l10 => ?_))))
   have a := x.n l10
   refine Dv b rfl (Di rfl ?_)
   obtain ⟨F, y, hm⟩ := ob hm
   refine Mw.p rfl rfl (fun _ => R.ix (α := Str) (d.ul a) y rfl rfl rfl) (Mw.q rfl rfl (fun _ c => R.ld rfl rfl (cl_cell ((d.ul a).at_ y).1 rfl ((d.ul a).at_ y).str c)) (Dv e rfl (Di rfl ?_)))
   obtain ⟨G, z, hm⟩ := ob hm
   refine Mw.p rfl rfl (fun _ => R.ix (α := Str) (f.ul a) z rfl rfl rfl) (Mw.q rfl rfl (fun _ c => R.ld rfl rfl (cl_cell ((f.ul a).at_ z).1 rfl ((f.ul a).at_ z).str c)) (Mw.p rfl rfl (fun _ => R.sne rfl rfl) (Mw.nil (cn hm (fun hm => ?_) fun hm => ?_))))
   ·exact sr (Nb rfl (.ret (rt hm a)))
   ·exact sk (rg (mi rfl (Lw.add rfl (Ni rfl ((agm) ⟨h, w64 (i + 1), D, rfl, (A.j l10).w, rfl, hm⟩)))))
  ·refine Cw.exit ?_
   rw [C] at hm
   exact sr (Nb rfl (.ret (rt hm x)))
theorem p130 {x0 a x1 b r} (d : Rd W K [a] x0) (f : Rd W K [b] x1) (hm : Vm.spec_l1Same x0 x1 = some r) : Q1 130 [a, b] W [] fun W' v => v = vB r :=
 (c130 (d.view _) (f.view _) hm).ad (fk 0) fun _ _ e => e
theorem c116 {x0 d x1 x2 e x3 r} (i : Rd W0 [0] [d] x0) (k : Rd W0 [0] [e] x2) (hm : Vm.spec_l6Same x0 x1 x2 x3 = some r) : Q0 116 [d, vB x1, e, vB x3] W0 fun Wf v => v = vB r := by
 unfold Vm.spec_l6Same at hm
 refine CallR.of Tryz.func116 rfl rfl rfl rfl (sr (Nb rfl ?_))
 obtain ⟨x, y, hm⟩ := jn_e hm
 refine Cw.join 9 20 [8] (fun l w => ∃ f h, CW.w h = w ∧ Le [] W0 h ∧ l = [vB f] ∧ x f = some r) ?_ ?_
 ·rintro _ _ σ ⟨f, h, rfl, z, rfl, hm⟩
  rw [y] at hm
  have A := z.o
  exact .ret (rt hm A)
 ·refine rg (mb rfl (mb rfl (Lw.r rfl (R.beq rfl rfl) (mb rfl (bs hm (fun a hm => ?_) fun a hm => ?_)))))
  ·refine wak 3 a (mb rfl (Lw.r rfl (R.not rfl) (mb rfl (bs hm (fun b hm => ?_) fun b hm => ?_))))
   ·exact psk 3 b rfl (wak 1 a (Pb b rfl (Pb a rfl (Nb rfl ((ag) ⟨true, W0, rfl, Le.refl _ _, rfl, hm⟩)))))
   ·exact wak 3 b (mv d rfl (mv e rfl (ca hm (fun _ => p130 i k) fun B C hm D => wak 1 a (Pb b rfl (Pb a rfl (Nb rfl ((ag) ⟨B, C, rfl, D, rfl, hm⟩)))))))
  ·exact psk 3 a rfl (puk 3 rfl (psk 1 a rfl (Pb a rfl (Nb rfl ((ag) ⟨false, W0, rfl, Le.refl _ _, rfl, hm⟩)))))
theorem p116 {x0 a x1 x2 b x3 r} (d : Rd W K [a] x0) (f : Rd W K [b] x2) (hm : Vm.spec_l6Same x0 x1 x2 x3 = some r) : Q1 116 [a, vB x1, b, vB x3] W [] fun W' v => v = vB r :=
 (c116 (d.view _) (f.view _) hm).ad (fk 0) fun _ _ e => e
theorem c143 {x0 z x1 A r} (B : Rd W0 [0] [z] x0) (C : Rd W0 [0] [A] x1) (hm : Vm.spec_l1Table x0 x1 = some r) : Q0 143 [z, A] W0 fun Wf v => ∃ u0, v = u0 ∧ OwS Wf LL [] [u0] r := by
 unfold Vm.spec_l1Table at hm
 refine CallR.of Tryz.func143 rfl rfl rfl rfl (sr (Nv (.slice none 0 0) rfl (sr (Lw.t rfl (T.lit0 (α := List Int) 2 []) ?_))))
 rintro v1 _ ⟨W1, rfl, l1, o1⟩
 have a2 := l1.o
 refine Nv v1 rfl (ssr (Ni rfl (Cw.block ?_)))
 obtain ⟨K8, bh, hm⟩ := jn_e hm
 refine Cw.loop 10 22 [5, 6] (fun m l w => ∃ G H a h, CW.w h = w ∧ Le [2, 3] W1 h ∧ l = [a, vI H] ∧ Ow h 2 [] [a] G ∧ Vm.spec_l1Table_l1 x0 x1 K8 m G H = some r) _ ⟨([] : List (List Int)), 0, v1, W1, rfl, Le.refl _ _, rfl, o1, hm⟩ ?_
 rintro (_ | m9) _ _ σ ⟨G, H, a, h, rfl, l7, rfl, o5, hm⟩
 ·cases hm
 unfold Vm.spec_l1Table_l1 at hm
 have I := a2.t l7
 refine ssr (mi rfl (mv z rfl (Lw.ln x0 (B.ul I) rfl (Lw.le rfl (nl (cn hm (fun hm => ?_) fun hm => ?_))))))
 ·refine sk (Cw.seq (Cw.block (rg (mv a rfl (mv A rfl (Lw.ln x1 (C.ul I) rfl (Lw.add rfl ?_)))))))
  obtain ⟨c5, bi, hm⟩ := ob hm
  refine Lw.t rfl (T.mk (α := Int) 3 [] (n := w64 ((x1.length : Int) + 1)) rfl rfl bi) ?_
  rintro av _ ⟨c6, rfl, aw, Q⟩
  refine Lw.t rfl (T.bs 4 [av] (cs := [av]) (bsc Q.oc) rfl (bsv Q.oc)) ?_
  rintro _ _ ⟨c7, c8, rfl, rfl, S, bj⟩
  obtain ⟨bk, bl, hm⟩ := ob hm
  refine Lw.t rfl (T.app1 (α := List Int) (J := [3]) (K' := []) ((o5.up aw).up S) bj (Q.up S).s rfl rfl bl) ?_
  rintro ax _ ⟨bm, rfl, bn, bp⟩
  exact Nv ax rfl (rg (mi rfl (Lw.add rfl (Ni rfl ((agm) ⟨bk, w64 (H + 1), ax, bm, rfl, (((l7.j aw).j S).j bn).w, rfl, bp, hm⟩)))))
 ·refine Cw.exit ?_
  rw [bh] at hm
  refine ssr (mv z rfl (Lw.ln x0 (B.ul I) rfl (Lw.sub rfl (Ni rfl (Cw.block ?_)))))
  obtain ⟨bq, br, hm⟩ := jn_e hm
  refine Cw.loop 26 108 [7, 8] (fun m l w => ∃ D K ay i, CW.w i = w ∧ Le [2, 5, 6, 7] h i ∧ l = [vI D, ay] ∧ Ow i 2 [] [a] K ∧ Vm.spec_l1Table_l2 x0 x1 bq m D K = some r) _ ⟨w64 ((x0.length : Int) - 1), G, undef, h, rfl, Le.refl _ _, rfl, o5, hm⟩ ?_
  rintro (_ | c9) _ _ σ ⟨D, K, ay, i, rfl, az, rfl, a0, hm⟩
  ·cases hm
  unfold Vm.spec_l1Table_l2 at hm
  have U := I.t az
  refine ssr (mi rfl (Lw.ge rfl (nl (cn hm (fun hm => ?_) fun hm => ?_))))
  ·refine sk (Cw.seq (Cw.block (sr (mv A rfl (Lw.ln x1 (C.ul U) rfl (Lw.sub rfl (Ni rfl (Cw.block ?_))))))))
   obtain ⟨bu, bv, hm⟩ := jn_e hm
   refine Cw.loop 33 108 [8] (fun m l w => ∃ E L k, CW.w k = w ∧ Le [2, 5, 6, 7] i k ∧ l = [vI E] ∧ Ow k 2 [] [a] L ∧ Vm.spec_l1Table_l3 x0 x1 D bu m E L = some r) _ ⟨w64 ((x1.length : Int) - 1), K, i, rfl, Le.refl _ _, rfl, a0, hm⟩ ?_
   rintro (_ | da) _ _ σ ⟨E, L, k, rfl, V, rfl, W, hm⟩
   ·cases hm
   unfold Vm.spec_l1Table_l3 at hm
   have bw := U.t V
   refine ssr (mi rfl (Lw.ge rfl (nl (cn hm (fun hm => ?_) fun hm => ?_))))
   ·refine sk ?_
    obtain ⟨bz, b0, hm⟩ := jn_e hm
    refine Cw.join 37 108 [] (fun l w => ∃ M F, CW.w F = w ∧ Le [2, 5, 6, 7] k F ∧ l = [] ∧ Ow F 2 [] [a] M ∧ bz M = some r) ?_ ?_
    ·rintro _ _ σ ⟨M, F, rfl, b1, rfl, b2, hm⟩
     rw [b0] at hm
     exact rg (mi rfl (Lw.sub rfl (Ni rfl ((agm) ⟨w64 (E - 1), M, F, rfl, (V.j b1).w, rfl, b2, hm⟩))))
    ·refine Cw.block (Cw.block (Cw.seq (Cw.draw [] [(0, 0), (1, 0), (2, 0), (3, 1), (4, 0), (5, 0), (6, 0), (7, 1), (8, 0), (9, 0)] mixed (by kernel_rfl) fun db x => ?_)))
     have y := bw.n x
     refine Dv z rfl (Di rfl ?_)
     obtain ⟨dc, X, hm⟩ := ob hm
     refine Mw.p rfl rfl (fun _ => R.ix (α := Str) (B.ul y) X rfl rfl rfl) (Mw.q rfl rfl (fun _ c => R.ld rfl rfl (cl_cell ((B.ul y).at_ X).1 rfl ((B.ul y).at_ X).str c)) (Dv A rfl (Di rfl ?_)))
     obtain ⟨dd, Y, hm⟩ := ob hm
     refine Mw.p rfl rfl (fun _ => R.ix (α := Str) (C.ul y) Y rfl rfl rfl) (Mw.q rfl rfl (fun _ c => R.ld rfl rfl (cl_cell ((C.ul y).at_ Y).1 rfl ((C.ul y).at_ Y).str c)) (Mw.p rfl rfl (fun _ => R.seq rfl rfl) (Hb rfl (Mw.nil (cn hm (fun hm => ?_) fun hm => ?_)))))
     ·refine Cw.draw [] [(0, 0), (1, 0), (2, 0), (3, 1), (4, 0), (5, 0), (6, 0), (7, 0), (8, 0), (9, 1), (10, 0), (11, 0), (12, 0), (13, 1), (14, 0), (15, 0), (16, 3)] mixed (by kernel_rfl) fun de a1 => ?_
      have d := (W.up x).up a1
      refine Dv a rfl (Di rfl ?_)
      obtain ⟨u64, N, hm⟩ := ob hm
      refine Mw.p rfl rfl (fun _ => R.ix (α := List Int) d.rd N rfl rfl rfl) ?_
      obtain ⟨df, c67, r68⟩ := (d.rd.at_ N).cell rfl
      refine Mw.q rfl rfl (fun _ c => R.ld rfl rfl (cl_cell (d.rd.at_ N).1 rfl c67 c)) (Di rfl (Dv a rfl (Di rfl (Mw.p rfl rfl (fun _ => R.add rfl rfl) ?_))))
      obtain ⟨dg, Z, hm⟩ := ob hm
      refine Mw.p rfl rfl (fun _ => R.ix (α := List Int) d.rd Z rfl rfl rfl) ?_
      obtain ⟨dh, c72, r73⟩ := (d.rd.at_ Z).cell rfl
      refine Mw.q rfl rfl (fun _ c => R.ld rfl rfl (cl_cell (d.rd.at_ Z).1 rfl c72 c)) (Di rfl (Mw.p rfl rfl (fun _ => R.add rfl rfl) ?_))
      obtain ⟨di, aa, hm⟩ := ob hm
      refine Mw.p rfl rfl (fun _ => R.ix (α := Int) r73 aa rfl rfl rfl) (Mw.q rfl rfl (fun _ c => R.ld rfl rfl (cl_cell (r73.at_ aa).1 rfl (r73.at_ aa).int c)) (Mw.p rfl rfl (fun _ => R.add rfl rfl) ?_))
      obtain ⟨dj, b3, hm⟩ := ob hm
      refine Mw.p rfl rfl (fun _ => R.ix (α := Int) r68 b3 rfl rfl rfl) ?_
      obtain ⟨dk, b4, b5, b6, gb78⟩ := Ow.lend (α := List Int) (β := List Int) (j := 5) (jf := 0) d N (by rw [h_add0]; exact c67) rfl
      rw [← b4]
      obtain ⟨dl, b7, hm⟩ := ob hm
      refine Mw.lu rfl (T.stS (K' := []) b6 (rdI _) b7 rfl rfl rfl) ?_
      rintro _ _ ⟨dm, rfl, a3, b8⟩
      obtain ⟨b9, cb, cc, cd, eq85, ce⟩ := gb78 _ _ a3 b8
      obtain ⟨a4, eqm85, hm⟩ := ob hm
      obtain rfl : a4 = cd := Option.some.inj (eqm85.symm.trans eq85)
      rw [← cb]
      exact Mw.nil ((ag) ⟨a4, b9, rfl, ((((x.j a1).j b5).j a3).j cc).w, rfl, ce, hm⟩)
     ·refine Cw.seq (Cw.draw [] [(0, 0), (1, 0), (2, 0), (3, 0), (4, 1), (5, 0), (6, 0), (7, 1), (8, 0), (9, 0), (10, 0), (11, 1), (12, 0), (13, 0), (14, 0), (15, 1), (16, 0), (17, 0)] mixed (by kernel_rfl) fun dn ac => ?_)
      have b := (W.up x).up ac
      refine Dv a rfl (Di rfl (Mw.p rfl rfl (fun _ => R.add rfl rfl) ?_))
      obtain ⟨dp, ae, hm⟩ := ob hm
      refine Mw.p rfl rfl (fun _ => R.ix (α := List Int) b.rd ae rfl rfl rfl) ?_
      obtain ⟨dq, c93, r94⟩ := (b.rd.at_ ae).cell rfl
      refine Mw.q rfl rfl (fun _ c => R.ld rfl rfl (cl_cell (b.rd.at_ ae).1 rfl c93 c)) (Di rfl ?_)
      obtain ⟨dr, af, hm⟩ := ob hm
      refine Mw.p rfl rfl (fun _ => R.ix (α := Int) r94 af rfl rfl rfl) (Mw.q rfl rfl (fun _ c => R.ld rfl rfl (cl_cell (r94.at_ af).1 rfl (r94.at_ af).int c)) (Dv a rfl (Di rfl ?_)))
      obtain ⟨ds, ah, hm⟩ := ob hm
      refine Mw.p rfl rfl (fun _ => R.ix (α := List Int) b.rd ah rfl rfl rfl) ?_
      obtain ⟨dt, c100, r101⟩ := (b.rd.at_ ah).cell rfl
      refine Mw.q rfl rfl (fun _ c => R.ld rfl rfl (cl_cell (b.rd.at_ ah).1 rfl c100 c)) (Di rfl (Mw.p rfl rfl (fun _ => R.add rfl rfl) ?_))
      obtain ⟨du, ai, hm⟩ := ob hm
      refine Mw.p rfl rfl (fun _ => R.ix (α := Int) r101 ai rfl rfl rfl) (Mw.q rfl rfl (fun _ c => R.ld rfl rfl (cl_cell (r101.at_ ai).1 rfl (r101.at_ ai).int c)) (Mw.p rfl rfl (fun _ => R.ge rfl rfl) (Hb rfl (Mw.nil (cn hm (fun hm => ?_) fun hm => ?_)))))
      ·refine Cw.draw [] [(0, 0), (1, 0), (2, 0), (3, 1), (4, 0), (5, 0), (6, 0), (7, 0), (8, 0), (9, 1), (10, 0), (11, 0), (12, 1), (13, 0), (14, 3)] mixed (by kernel_rfl) fun dv a5 => ?_
       have e := b.up a5
       refine Dv a rfl (Di rfl ?_)
       obtain ⟨dw, O, hm⟩ := ob hm
       refine Mw.p rfl rfl (fun _ => R.ix (α := List Int) e.rd O rfl rfl rfl) ?_
       obtain ⟨dx, c111, r112⟩ := (e.rd.at_ O).cell rfl
       refine Mw.q rfl rfl (fun _ c => R.ld rfl rfl (cl_cell (e.rd.at_ O).1 rfl c111 c)) (Di rfl (Dv a rfl (Di rfl (Mw.p rfl rfl (fun _ => R.add rfl rfl) ?_))))
       obtain ⟨dy, aj, hm⟩ := ob hm
       refine Mw.p rfl rfl (fun _ => R.ix (α := List Int) e.rd aj rfl rfl rfl) ?_
       obtain ⟨dz, c116, r117⟩ := (e.rd.at_ aj).cell rfl
       refine Mw.q rfl rfl (fun _ c => R.ld rfl rfl (cl_cell (e.rd.at_ aj).1 rfl c116 c)) (Di rfl ?_)
       obtain ⟨d0, ak, hm⟩ := ob hm
       refine Mw.p rfl rfl (fun _ => R.ix (α := Int) r117 ak rfl rfl rfl) (Mw.q rfl rfl (fun _ c => R.ld rfl rfl (cl_cell (r117.at_ ak).1 rfl (r117.at_ ak).int c)) ?_)
       obtain ⟨d1, cf, hm⟩ := ob hm
       refine Mw.p rfl rfl (fun _ => R.ix (α := Int) r112 cf rfl rfl rfl) ?_
       obtain ⟨d2, cg, ch, ci, gb122⟩ := Ow.lend (α := List Int) (β := List Int) (j := 6) (jf := 0) e O (by rw [h_add0]; exact c111) rfl
       rw [← cg]
       obtain ⟨d3, cj, hm⟩ := ob hm
       refine Mw.lu rfl (T.stS (K' := []) ci (rdI _) cj rfl rfl rfl) ?_
       rintro _ _ ⟨d4, rfl, a6, ck⟩
       obtain ⟨cl, cm, co, cp, eq129, cq⟩ := gb122 _ _ a6 ck
       obtain ⟨a7, eqm129, hm⟩ := ob hm
       obtain rfl : a7 = cp := Option.some.inj (eqm129.symm.trans eq129)
       rw [← cm]
       exact Mw.nil ((ag) ⟨a7, cl, rfl, (((((x.j ac).j a5).j ch).j a6).j co).w, rfl, cq, hm⟩)
      ·refine Cw.draw [] [(0, 0), (1, 0), (2, 0), (3, 1), (4, 0), (5, 0), (6, 0), (7, 0), (8, 1), (9, 0), (10, 0), (11, 0), (12, 1), (13, 0), (14, 3)] mixed (by kernel_rfl) fun d5 a8 => ?_
       have f := b.up a8
       refine Dv a rfl (Di rfl ?_)
       obtain ⟨d6, P, hm⟩ := ob hm
       refine Mw.p rfl rfl (fun _ => R.ix (α := List Int) f.rd P rfl rfl rfl) ?_
       obtain ⟨d7, c137, r138⟩ := (f.rd.at_ P).cell rfl
       refine Mw.q rfl rfl (fun _ c => R.ld rfl rfl (cl_cell (f.rd.at_ P).1 rfl c137 c)) (Di rfl (Dv a rfl (Di rfl ?_)))
       obtain ⟨d8, am, hm⟩ := ob hm
       refine Mw.p rfl rfl (fun _ => R.ix (α := List Int) f.rd am rfl rfl rfl) ?_
       obtain ⟨d9, c142, r143⟩ := (f.rd.at_ am).cell rfl
       refine Mw.q rfl rfl (fun _ c => R.ld rfl rfl (cl_cell (f.rd.at_ am).1 rfl c142 c)) (Di rfl (Mw.p rfl rfl (fun _ => R.add rfl rfl) ?_))
       obtain ⟨ea, an, hm⟩ := ob hm
       refine Mw.p rfl rfl (fun _ => R.ix (α := Int) r143 an rfl rfl rfl) (Mw.q rfl rfl (fun _ c => R.ld rfl rfl (cl_cell (r143.at_ an).1 rfl (r143.at_ an).int c)) ?_)
       obtain ⟨eb, ct, hm⟩ := ob hm
       refine Mw.p rfl rfl (fun _ => R.ix (α := Int) r138 ct rfl rfl rfl) ?_
       obtain ⟨ec, cu, cv, cw, gb148⟩ := Ow.lend (α := List Int) (β := List Int) (j := 7) (jf := 0) f P (by rw [h_add0]; exact c137) rfl
       rw [← cu]
       obtain ⟨ed, cx, hm⟩ := ob hm
       refine Mw.lu rfl (T.stS (K' := []) cw (rdI _) cx rfl rfl rfl) ?_
       rintro _ _ ⟨ee, rfl, a9, cy⟩
       obtain ⟨cz, c0, c1, c2, eq155, c3⟩ := gb148 _ _ a9 cy
       obtain ⟨ba, eqm155, hm⟩ := ob hm
       obtain rfl : ba = c2 := Option.some.inj (eqm155.symm.trans eq155)
       rw [← c0]
       exact Mw.nil ((ag) ⟨ba, cz, rfl, (((((x.j ac).j a8).j cv).j a9).j c1).w, rfl, c3, hm⟩)
   ·refine Cw.exit ?_
    rw [bv] at hm
    exact rg (mi rfl (Lw.sub rfl (Ni rfl ((agm) ⟨w64 (D - 1), L, vI E, k, rfl, (az.j V).w, rfl, W, hm⟩))))
  ·refine Cw.exit ?_
   rw [br] at hm
   refine sr (mv a rfl (Nv a rfl ?_))
   cases hm
   exact Cw.ret (ret1 rfl (Res.mk U ⟨a, rfl, a0.s.sub rfl rfl⟩))
theorem p143 {x0 b x1 d k0 r} (f : Rd W K [b] x0) (h : Rd W K [d] x1) (hm : Vm.spec_l1Table x0 x1 = some r) : Q1 143 [b, d] W [] fun W' v => ∃ a, v = a ∧ Ow W' k0 [] [a] r :=
 (c143 (f.view _) (h.view _) hm).ad (fk k0) fun _ _ ⟨a, e, i⟩ => ⟨a, e, i.back (fk_LL _)⟩
end Go.Sx
