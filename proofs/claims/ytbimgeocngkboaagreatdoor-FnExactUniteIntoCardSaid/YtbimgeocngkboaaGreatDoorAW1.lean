/- Walks: each function answers as its model, printed by a program of ours. Conditions: the arguments read as they are given. -/
import Derived.Test.YtbimgeocngkboaaGreatDoorATs
import Derived.Test.YtbimgeocngkboaaGreatDoorAM0
import Derived.Test.YtbimgeocngkboaaGreatDoorAW0
namespace Go.Sx
open Go Go.Proofs Go.Vm Rp
set_option linter.unusedVariables false
set_option linter.unusedSimpArgs false
variable {W W0 : CW} {K : List Nat}
theorem c19 {x0 ah F r} (h0 : Rd W0 [0] [ah, F] x0) (hm : Vm.spec_l7Ok x0 = some r) : Q0 19 [.agg [ah, F].toArray] W0 fun Wf v => v = vB r := by
 unfold Vm.spec_l7Ok at hm
 obtain ⟨c2, c3, bb, ai, aj⟩ := Repo.split h0
 simp only [List.cons.injEq, and_true, true_and] at bb
 obtain ⟨rfl, rfl⟩ := bb
 refine CallR.of Tryz.func19 rfl rfl rfl rfl (sr (bo 2 rfl fun g1 W1 l1 b1 => ?_))
 have a2 := l1.o
 refine Nb rfl (ssr (Ni rfl (Cw.block ?_)))
 obtain ⟨K8, b2, hm⟩ := jn_e hm
 refine Cw.loop 7 66 [2, 3, 4, 5] (fun m l w => ∃ G H j5 j6 I, CW.w I = w ∧ Le [3] W1 I ∧ l = [vB G, vI H, j5, j6] ∧ Vm.spec_l7Ok_l1 x0 K8 m G H = some r) _ ⟨false, 0, undef, undef, W1, rfl, Le.refl _ _, rfl, hm⟩ ?_
 rintro (_ | m9) _ _ σ ⟨G, H, j5, j6, I, rfl, l7, rfl, hm⟩
 ·cases hm
 unfold Vm.spec_l7Ok_l1 at hm
 have V := a2.t l7
 have am := b1.up l7
 refine ssr ?_
 have an := ai.ul V
 refine mi rfl (fl am rfl (Lw.ln x0.Commits an rfl (Lw.lt rfl (nl (cn hm (fun hm => ?_) fun hm => ?_)))))
 ·refine sk (Cw.seq (Cw.block (sr (fl am rfl (mi rfl ?_)))))
  obtain ⟨ao, bh, hm⟩ := ob hm
  refine Lw.r rfl (R.ix (α := Commit) an bh rfl rfl rfl) ?_
  obtain ⟨x16, c17, _, r18⟩ := (an.at_ bh).cells
  obtain ⟨bi, c6, rfl, r20, r22⟩ := Commit.split r18
  refine Lw.r rfl (R.lda c17 rfl rfl) (al 3 [.slice none 0 0, vS ([] : Str), .slice none 0 0] fun b3 c7 bj b4 => ?_)
  have J := bj.o
  refine sta b4 (oc_cons r20.oc (oc_cons rfl (oc_cons r22.oc oc_nil))) fun bk bl b5 => ?_
  have K := bl.s
  refine nl (ssr (Ni rfl (Cw.block ?_)))
  obtain ⟨b6, b7, hm⟩ := jn_e hm
  refine Cw.loop 19 50 [2, 5] (fun m l w => ∃ L x z, CW.w z = w ∧ Le [] bk z ∧ l = [vB L, vI x] ∧ Vm.spec_l7Ok_l2 H ao b6 m L x = some r) _ ⟨G, 0, bk, rfl, Le.refl _ _, rfl, hm⟩ ?_
  rintro (_ | c8) _ _ σ ⟨L, x, z, rfl, W, rfl, hm⟩
  ·cases hm
  unfold Vm.spec_l7Ok_l2 at hm
  have M := W.o
  have N := b5.up W
  refine ssr ?_
  have bm := r20.ul ((J.trans K).trans M)
  refine mi rfl (fl N rfl (Lw.ln ao.Parents bm rfl (Lw.lt rfl (nl (cn hm (fun hm => ?_) fun hm => ?_)))))
  ·refine sk (Cw.seq (Cw.block ?_))
   obtain ⟨b8, b9, hm⟩ := jn_e hm
   refine Cw.join 26 50 [50] (fun l w => ∃ ap X, CW.w X = w ∧ Le [] z X ∧ l = [vB ap] ∧ b8 ap = some r) ?_ ?_
   ·rintro _ _ σ ⟨ap, X, rfl, bn, rfl, hm⟩
    rw [b9] at hm
    have cb := (((V.trans J).trans K).trans M).n bn
    refine cn hm (fun hm => ?_) fun hm => ?_
    ·exact sr (Nb rfl (.ret (rt hm cb)))
    ·exact sk (rg (mi rfl (Lw.add rfl (Ni rfl ((agm) ⟨L, w64 (x + 1), X, rfl, (W.j bn).w, rfl, hm⟩)))))
   ·refine Cw.draw [] [(0, 0), (1, 1), (2, 0), (3, 0), (4, 1), (5, 0), (6, 0), (7, 2), (8, 0), (9, 0), (10, 0), (11, 0), (12, 0), (13, 0), (14, 1), (15, 0), (16, 0), (17, 1), (18, 0), (19, 1), (20, 0), (21, 1), (22, 0), (23, 0), (24, 0)] mixed (by kernel_rfl) fun c9 O => ?_
    have cc := ((J.trans K).trans M).n O
    have aq := N.up O
    refine Dfl aq rfl rfl rfl (Di rfl ?_)
    obtain ⟨da, ar, hm⟩ := ob hm
    have i := r20.ul cc
    refine Mw.p rfl rfl (fun _ => R.ix (α := Int) i ar rfl rfl rfl) (Mw.q rfl rfl (fun _ c => R.ld rfl rfl (cl_cell (i.at_ ar).1 rfl (i.at_ ar).int c)) (Di rfl (Mw.p rfl rfl (fun _ => R.sub rfl rfl) (Dc hm (Le.refl _ _) (fun _ => p22) rfl ?_))))
    rintro db _ au hm av rfl dc
    refine Mw.p rfl rfl (fun _ => R.not rfl) (Db rfl (bs hm (fun f hm => ?_) fun f hm => ?_))
    ·exact dps 3 f rfl (dpu 10 rfl (dps 1 f rfl (Mw.p rfl rfl (fun _ => R.pk f rfl (v := vB true) rfl) (Mw.nil ((ag) ⟨true, au, rfl, (O.j av).w, rfl, hm⟩)))))
    ·refine Wp f rfl (fun _ => R.mv (v := vI x) rfl) (Wp f rfl (fun _ => R.gt rfl rfl) (Wp f rfl (fun _ => R.mv (v := vB (decide ((0 : Int) < (x : Int)))) rfl) (bs hm (fun d hm => ?_) fun d hm => ?_)))
     ·refine Wp d rfl (fun _ => R.fa rfl) (Wq d rfl (fun _ c => R.ld (v := bi) rfl rfl (aq.clc rfl rfl c)) (Wp d rfl (fun _ => R.mv (v := vI x) rfl) ?_))
      obtain ⟨aw, ax, hm⟩ := ob hm
      refine Wp d rfl (fun _ => R.ix (α := Int) i ax rfl rfl rfl) (Wq d rfl (fun _ c => R.ld rfl rfl (cl_cell (i.at_ ax).1 rfl (i.at_ ax).int c)) (Wp d rfl (fun _ => R.fa rfl) (Wq d rfl (fun _ c => R.ld (v := bi) rfl rfl (aq.clc rfl rfl c)) ?_)))
      obtain ⟨ay, az, hm⟩ := ob hm
      exact Wp d rfl (fun _ => R.ix (α := Int) i az rfl rfl rfl) (Wq d rfl (fun _ c => R.ld rfl rfl (cl_cell (i.at_ az).1 rfl (i.at_ az).int c)) (Wp d rfl (fun _ => R.eq rfl rfl) (Wp f rfl (fun _ => R.pk d rfl (v := vB ((aw : Int) == (ay : Int))) rfl) (Mw.p rfl rfl (fun _ => R.pk f rfl (v := vB ((aw : Int) == (ay : Int))) rfl) (Mw.nil ((ag) ⟨((aw : Int) == (ay : Int)), au, rfl, (O.j av).w, rfl, hm⟩))))))
     ·exact dps 10 d rfl (Wp f rfl (fun _ => R.pk d rfl (v := vB false) rfl) (Mw.p rfl rfl (fun _ => R.pk f rfl (v := vB false) rfl) (Mw.nil ((ag) ⟨false, au, rfl, (O.j av).w, rfl, hm⟩))))
  ·refine Cw.exit ?_
   rw [b7] at hm
   obtain ⟨cd, ce, hm⟩ := jn_e hm
   refine Cw.join 51 66 [66] (fun l w => ∃ a0 Y, CW.w Y = w ∧ Le [] z Y ∧ l = [vB a0] ∧ cd a0 = some r) ?_ ?_
   ·rintro _ _ σ ⟨a0, Y, rfl, bp, rfl, hm⟩
    rw [ce] at hm
    have cf := (((V.trans J).trans K).trans M).n bp
    refine cn hm (fun hm => ?_) fun hm => ?_
    ·exact sr (Nb rfl (.ret (rt hm cf)))
    ·exact sk (rg (mi rfl (Lw.add rfl (Ni rfl ((agm) ⟨L, w64 (H + 1), ptr (bx b3), vI x, Y, rfl, ((((l7.j bj).j bl).j W).j bp).w, rfl, hm⟩)))))
   ·refine rg (fl N rfl (Lw.ln ao.Parents bm rfl (Lw.gt rfl (mb rfl (bs hm (fun P hm => ?_) fun P hm => ?_)))))
    ·exact psk 4 P rfl (Pb P rfl (mb rfl (psk 4 rfl rfl (Pb rfl rfl (nl ((ag) ⟨true, z, rfl, Le.refl _ _, rfl, hm⟩))))))
    ·refine wak 4 P (fl N rfl (ca hm (fun _ => p21) fun dd cg hm Z => ?_))
     have ch := ((J.trans K).trans M).n Z
     refine Lw.r rfl (R.not rfl) (Pb P rfl (mb rfl (bs hm (fun Q hm => ?_) fun Q hm => ?_)))
     ·exact psk 4 Q rfl (Pb Q rfl (nl ((ag) ⟨true, cg, rfl, Z, rfl, hm⟩)))
     ·exact wak 4 Q (fl (N.up Z) rfl (ca hm (fun _ => p40 (r22.ul ch)) fun ci cj hm ck => Lw.r rfl (R.not rfl) (Pb Q rfl (nl ((ag) ⟨(!ci), cj, rfl, (Z.j ck).w, rfl, hm⟩)))))
 ·refine Cw.exit ?_
  rw [b2] at hm
  refine ssr (Ni rfl (Cw.block ?_))
  obtain ⟨cl, cm, hm⟩ := jn_e hm
  refine Cw.loop 67 115 [2, 6] (fun m l w => ∃ aa k y, CW.w y = w ∧ Le [] I y ∧ l = [vB aa, vI k] ∧ Vm.spec_l7Ok_l3 x0 cl m aa k = some r) _ ⟨G, 0, I, rfl, Le.refl _ _, rfl, hm⟩ ?_
  rintro (_ | de) _ _ σ ⟨aa, k, y, rfl, a1, rfl, hm⟩
  ·cases hm
  unfold Vm.spec_l7Ok_l3 at hm
  have A := V.n a1
  have ac := am.up a1
  refine ssr (mi rfl (fl ac rfl (Lw.ln x0.Heads (aj.ul A) rfl (Lw.lt rfl (nl (cn hm (fun hm => ?_) fun hm => ?_))))))
  ·refine sk (Cw.seq (Cw.block ?_))
   obtain ⟨co, cp, hm⟩ := jn_e hm
   refine Cw.join 74 115 [115] (fun l w => ∃ a3 ae, CW.w ae = w ∧ Le [] y ae ∧ l = [vB a3] ∧ co a3 = some r) ?_ ?_
   ·rintro _ _ σ ⟨a3, ae, rfl, bq, rfl, hm⟩
    rw [cp] at hm
    have cq := A.n bq
    refine cn hm (fun hm => ?_) fun hm => ?_
    ·exact sr (Nb rfl (.ret (rt hm cq)))
    ·exact sk (rg (mi rfl (Lw.add rfl (Ni rfl ((agm) ⟨aa, w64 (k + 1), ae, rfl, (a1.j bq).w, rfl, hm⟩)))))
   ·refine Cw.draw [] [(0, 0), (1, 1), (2, 0), (3, 0), (4, 0), (5, 1), (6, 2), (7, 0), (8, 0), (9, 0), (10, 1), (11, 0), (12, 0), (13, 0), (14, 1), (15, 0), (16, 1), (17, 0), (18, 0), (19, 2), (20, 0), (21, 0), (22, 0), (23, 0), (24, 0), (25, 0), (26, 0), (27, 1), (28, 0), (29, 0), (30, 0), (31, 1), (32, 0), (33, 1), (34, 0), (35, 0), (36, 0), (37, 0), (38, 1), (39, 0), (40, 0), (41, 0)] mixed (by kernel_rfl) fun df B => ?_
    have br := A.n B
    have S := ac.up B
    refine Dfl S rfl rfl rfl (Di rfl ?_)
    obtain ⟨dg, a4, hm⟩ := ob hm
    have e := aj.ul br
    refine Mw.p rfl rfl (fun _ => R.ix (α := Head) e a4 rfl rfl rfl) (Df rfl (Mw.q rfl rfl (fun _ c => R.ld rfl rfl (cl_cell (Head.at0 (e.at_ a4)).1 rfl (Head.at0 (e.at_ a4)).str c)) ?_))
    obtain ⟨dh, cs, hm⟩ := ob hm
    refine Mw.t rfl rfl (T.call rfl (p21   cs)) ?_
    rintro _ _ ⟨ct, rfl, C, rfl⟩
    have cu := br.n C
    refine m0 C fun cv => Mw.p rfl rfl (fun _ => R.not rfl) (Db rfl (bs hm (fun b hm => ?_) fun b hm => ?_))
    ·exact dps 12 b rfl (Mw.p rfl rfl (fun _ => R.pk b rfl (v := vB true) rfl) (Db rfl (dps 3 rfl rfl (dpu 14 rfl (dps 1 rfl rfl (Mw.p rfl rfl (fun _ => R.pk rfl rfl (v := vB true) rfl) (Mw.nil ((ag) ⟨true, ct, rfl, (B.j C).w, rfl, hm⟩))))))))
    ·refine Wp b rfl (fun _ => R.fa rfl) (Wq b rfl (fun _ c => R.ld (v := F) rfl rfl (S.clc rfl rfl c)) (Wp b rfl (fun _ => R.mv (v := vI k) rfl) ?_))
     obtain ⟨di, a5, hm⟩ := ob hm
     refine Wp b rfl (fun _ => R.ix (α := Head) e a5 rfl rfl rfl) (Wp b rfl (fun _ => R.fa rfl) (Wq b rfl (fun _ c => R.ld rfl rfl (cl_cell (Head.at1 (e.at_ a5)).1 rfl (Head.at1 (e.at_ a5)).int c)) (Wp b rfl (fun _ => R.fa rfl) (Wq b rfl (fun _ c => R.ld (v := ah) rfl rfl (S.clc rfl rfl c)) (Wp b rfl (fun _ => lenR (xs := x0.Commits) (ai.ul cu) rfl) (Wp b rfl (fun _ => R.sub rfl rfl) ?_))))))
     obtain ⟨cw, cx, hm⟩ := ob hm
     refine Wt b rfl (T.call rfl (p22   cx)) ?_
     rintro _ _ ⟨a6, rfl, af, rfl⟩
     refine mc cv af fun dj => Wp b rfl (fun _ => R.not rfl) (Mw.p rfl rfl (fun _ => R.pk b rfl (v := vB (!cw)) rfl) (Db rfl (bs hm (fun h hm => ?_) fun h hm => ?_)))
     ·exact dps 3 h rfl (dpu 14 rfl (dps 1 h rfl (Mw.p rfl rfl (fun _ => R.pk h rfl (v := vB true) rfl) (Mw.nil ((ag) ⟨true, a6, rfl, ((B.j C).j af).w, rfl, hm⟩)))))
     ·refine Wp h rfl (fun _ => R.mv (v := vI k) rfl) (Wp h rfl (fun _ => R.gt rfl rfl) (Wp h rfl (fun _ => R.mv (v := vB (decide ((0 : Int) < (k : Int)))) rfl) (bs hm (fun a hm => ?_) fun a hm => ?_)))
      ·refine Wp a rfl (fun _ => R.fa rfl) (Wq a rfl (fun _ c => R.ld (v := F) rfl rfl (S.clc rfl rfl c)) (Wp a rfl (fun _ => R.mv (v := vI k) rfl) ?_))
       obtain ⟨D, a7, hm⟩ := ob hm
       refine Wp a rfl (fun _ => R.ix (α := Head) e a7 rfl rfl rfl) (Wp a rfl (fun _ => R.fa rfl) (Wq a rfl (fun _ c => R.ld rfl rfl (cl_cell (Head.at0 (e.at_ a7)).1 rfl (Head.at0 (e.at_ a7)).str c)) (Wp a rfl (fun _ => R.fa rfl) (Wq a rfl (fun _ c => R.ld (v := F) rfl rfl (S.clc rfl rfl c)) (Wp a rfl (fun _ => R.mv (v := vI k) rfl) (Wp a rfl (fun _ => R.sub rfl rfl) ?_))))))
       obtain ⟨E, a8, hm⟩ := ob hm
       exact Wp a rfl (fun _ => R.ix (α := Head) e a8 rfl rfl rfl) (Wp a rfl (fun _ => R.fa rfl) (Wq a rfl (fun _ c => R.ld rfl rfl (cl_cell (Head.at0 (e.at_ a8)).1 rfl (Head.at0 (e.at_ a8)).str c)) (Wp a rfl (fun _ => R.sle rfl rfl) (Wp h rfl (fun _ => R.pk a rfl (v := vB (Op.bytesLess D.Name E.Name || D.Name == E.Name)) rfl) (Mw.p rfl rfl (fun _ => R.pk h rfl (v := vB (Op.bytesLess D.Name E.Name || D.Name == E.Name)) rfl) (Mw.nil ((ag) ⟨(Op.bytesLess D.Name E.Name || D.Name == E.Name), a6, rfl, ((B.j C).j af).w, rfl, hm⟩)))))))
      ·exact dps 14 a rfl (Wp h rfl (fun _ => R.pk a rfl (v := vB false) rfl) (Mw.p rfl rfl (fun _ => R.pk h rfl (v := vB false) rfl) (Mw.nil ((ag) ⟨false, a6, rfl, ((B.j C).j af).w, rfl, hm⟩))))
  ·refine Cw.exit ?_
   rw [cm] at hm
   obtain ⟨cy, cz, hm⟩ := jn_e hm
   refine Cw.join 116 125 [2] (fun l w => ∃ a9 ba, CW.w ba = w ∧ Le [] y ba ∧ l = [vB a9] ∧ cy a9 = some r) ?_ ?_
   ·rintro _ _ σ ⟨a9, ba, rfl, c0, rfl, hm⟩
    rw [cz] at hm
    have c1 := A.n c0
    exact .ret (rt hm c1)
   ·refine rg (fl ac rfl (Lw.ln x0.Commits (ai.ul A) rfl (Lw.le rfl (mb rfl (bs hm (fun U hm => ?_) fun U hm => ?_)))))
    ·exact wak 4 U (fl ac rfl (Lw.ln x0.Heads (aj.ul A) rfl (Lw.le rfl (Pb U rfl (Nb rfl ((ag) ⟨decide (((x0.Heads.length : Int) : Int) ≤ (5 : Int)), y, rfl, Le.refl _ _, rfl, hm⟩))))))
    ·exact psk 4 U rfl (Pb U rfl (Nb rfl ((ag) ⟨false, y, rfl, Le.refl _ _, rfl, hm⟩)))
theorem p19 {x0 a b r} (d : Rd W K [a, b] x0) (hm : Vm.spec_l7Ok x0 = some r) : Q1 19 [.agg [a, b].toArray] W [] fun W' v => v = vB r :=
 (c19 (d.view _) hm).ad (fk 0) fun _ _ e => e
theorem c20 {x0 k x x1 r} (C : Rd W0 [0] [k, x] x0) (hm : Vm.spec_l7At x0 x1 = some r) : Q0 20 [.agg [k, x].toArray, vS x1] W0 fun Wf v => v = vI r := by
 unfold Vm.spec_l7At at hm
 obtain ⟨J, K, y, L, D⟩ := Repo.split C
 simp only [List.cons.injEq, and_true, true_and] at y
 obtain ⟨rfl, rfl⟩ := y
 refine CallR.of Tryz.func20 rfl rfl rfl rfl (sr (bo 2 rfl fun M z E F => ?_))
 have G := E.o
 refine Ni rfl (ssr (Ni rfl (Cw.block ?_)))
 obtain ⟨H, I, hm⟩ := jn_e hm
 refine Cw.loop 6 26 [4, 5] (fun m l w => ∃ b d e, CW.w e = w ∧ Le [] z e ∧ l = [vI b, vI d] ∧ Vm.spec_l7At_l1 x0 x1 H m b d = some r) _ ⟨0, 0, z, rfl, Le.refl _ _, rfl, hm⟩ ?_
 rintro (_ | N) _ _ σ ⟨b, d, e, rfl, f, rfl, hm⟩
 ·cases hm
 unfold Vm.spec_l7At_l1 at hm
 have h := G.n f
 have i := F.up f
 refine ssr ?_
 have a := D.ul h
 refine mi rfl (fl i rfl (Lw.ln x0.Heads a rfl (Lw.lt rfl (nl (cn hm (fun hm => ?_) fun hm => ?_)))))
 ·refine sk (Cw.seq (Cw.block (sr (fl i rfl (mi rfl ?_)))))
  obtain ⟨O, A, hm⟩ := ob hm
  refine Lw.r rfl (R.ix (α := Head) a A rfl rfl rfl) (Lw.fa rfl (Lw.r rfl (R.ld rfl rfl (Head.at0 (a.at_ A)).str) (ms rfl (Lw.seq rfl (nl (cn hm (fun hm => ?_) fun hm => ?_))))))
  ·refine sr (fl i rfl (mi rfl ?_))
   obtain ⟨P, B, hm⟩ := ob hm
   exact Lw.r rfl (R.ix (α := Head) a B rfl rfl rfl) (Lw.fa rfl (Lw.r rfl (R.ld rfl rfl (Head.at1 (a.at_ B)).int) (Ni rfl (.ret (rt hm h)))))
  ·exact sk (rg (mi rfl (Lw.add rfl (Ni rfl ((agm) ⟨b, w64 (d + 1), e, rfl, f, rfl, hm⟩)))))
 ·refine Cw.exit ?_
  rw [I] at hm
  exact sr (Ni rfl (.ret (rt hm h)))
theorem p20 {x0 a b x1 r} (d : Rd W K [a, b] x0) (hm : Vm.spec_l7At x0 x1 = some r) : Q1 20 [.agg [a, b].toArray, vS x1] W [] fun W' v => v = vI r :=
 (c20 (d.view _) hm).ad (fk 0) fun _ _ e => e
theorem c78 {x0 d r} (E : Rd W0 [0] [d] x0) (hm : Vm.spec_l4Copy x0 = some r) : Q0 78 [d] W0 fun Wf v => ∃ F, v = F ∧ OwS Wf LL [] [F] r := by
 unfold Vm.spec_l4Copy at hm
 refine CallR.of Tryz.func78 rfl rfl rfl rfl (sr (Nv (.slice none 0 0) rfl (sr (Lw.t rfl (T.lit0 (α := File) 2 []) ?_))))
 rintro G _ ⟨H, rfl, O, P⟩
 have Q := O.o
 refine Nv G rfl (ssr (Ni rfl (Cw.block ?_)))
 obtain ⟨S, U, hm⟩ := jn_e hm
 refine Cw.loop 6 27 [3, 4] (fun m l w => ∃ y f a h, CW.w h = w ∧ Le [2, 3] H h ∧ l = [a, vI f] ∧ Ow h 2 [] [a] y ∧ Vm.spec_l4Copy_l1 x0 S m y f = some r) _ ⟨([] : List File), 0, G, H, rfl, Le.refl _ _, rfl, P, hm⟩ ?_
 rintro (_ | m9) _ _ σ ⟨y, f, a, h, rfl, I, rfl, K, hm⟩
 ·cases hm
 unfold Vm.spec_l4Copy_l1 at hm
 have z := Q.t I
 refine ssr (mi rfl (mv d rfl (Lw.ln x0 (E.ul z) rfl (Lw.lt rfl (nl (cn hm (fun hm => ?_) fun hm => ?_))))))
 ·refine sk (Cw.seq (Cw.block (Cw.draw [2, 3] [(0, 0), (1, 0), (2, 0), (3, 0), (4, 0), (5, 1), (7, 0), (8, 0), (9, 0), (10, 0), (11, 1), (6, 2), (12, 2), (13, 0), (14, 2), (15, 2), (16, 0)] mixed (by kernel_rfl) fun an A => ?_)))
  have V := z.n A
  refine Dv a rfl (Dv d rfl (Di rfl ?_))
  obtain ⟨e, B, hm⟩ := ob hm
  have b := E.ul V
  refine Mw.p rfl rfl (fun _ => R.ix (α := File) b B rfl rfl rfl) (Df rfl (Mw.q rfl rfl (fun _ c => R.ld rfl rfl (cl_cell (File.at0 (b.at_ B)).1 rfl (File.at0 (b.at_ B)).str c)) (Dv d rfl (Di rfl ?_))))
  obtain ⟨ao, C, hm⟩ := ob hm
  refine Mw.p rfl rfl (fun _ => R.ix (α := File) b C rfl rfl rfl) (Df rfl ?_)
  obtain ⟨ap, c22, r23⟩ := (File.at1 (b.at_ C)).cell rfl
  refine Mw.q rfl rfl (fun _ c => R.ld rfl rfl (cl_cell (File.at1 (b.at_ C)).1 rfl c22 c)) (Mw.t rfl rfl (T.lit0 (α := Str) 3 []) ?_)
  rintro aq _ ⟨ar, rfl, i, W⟩
  have X := i.o
  refine m0 i fun Y => ?_
  obtain ⟨Z, aa, hm⟩ := ob hm
  refine Mw.t rfl rfl (T.appP (α := Str) W (r23.ul X) rfl rfl aa) ?_
  rintro k _ ⟨au, rfl, D, L⟩
  refine mc Y D fun ac => Mw.p rfl rfl (fun _ => R.bd (zs := [vS ([] : Str), .slice none 0 0]) (cs := [vS e.Path, k]) [(0, vS e.Path), (1, k)] rfl rfl rfl (bp_cons rfl rfl (bp_cons L.oc rfl bp_nil))) (Mw.t rfl rfl (T.bs 4 [.agg [vS e.Path, k].toArray] (cs := [vS e.Path, k]) rfl rfl (bsA rfl)) ?_)
  rintro _ _ ⟨av, aw, rfl, rfl, x, ae⟩
  refine mc ac x fun af => ?_
  obtain ⟨ah, ai, hm⟩ := ob hm
  refine Mw.t rfl rfl (T.app1 (α := File) (J := [3]) (K' := []) ((((K.up A).up i).up D).up x) ae (File.own e.Path Z (L.up x).s) rfl rfl ai) ?_
  rintro M _ ⟨aj, rfl, N, ak⟩
  exact mc af N fun ax => Hv M rfl (Mw.nil (rg (mi rfl (Lw.add rfl (Ni rfl ((agm) ⟨ah, w64 (f + 1), M, aj, rfl, (((((I.j A).j i).j D).j x).j N).w, rfl, ak, hm⟩))))))
 ·refine Cw.exit ?_
  rw [U] at hm
  refine sr (mv a rfl (Nv a rfl ?_))
  cases hm
  exact Cw.ret (ret1 rfl (Res.mk z ⟨a, rfl, K.s.sub rfl rfl⟩))
theorem p78 {x0 b k0 r} (d : Rd W K [b] x0) (hm : Vm.spec_l4Copy x0 = some r) : Q1 78 [b] W [] fun W' v => ∃ a, v = a ∧ Ow W' k0 [] [a] r :=
 (c78 (d.view _) hm).ad (fk k0) fun _ _ ⟨a, e, f⟩ => ⟨a, e, f.back (fk_LL _)⟩
theorem c41 {x0 A B r} (I : Rd W0 [0] [A, vS x0.Who, B] x0) (hm : Vm.spec_l7CopyCommit x0 = some r) : Q0 41 [.agg [A, vS x0.Who, B].toArray] W0 fun Wf v => ∃ C D, v = .agg [C, vS r.Who, D].toArray ∧ OwS Wf [31] [] [C] r.Parents ∧ OwS Wf [32] [] [D] r.Tree := by
 unfold Vm.spec_l7CopyCommit at hm
 obtain ⟨am, an, E, J, K⟩ := Commit.split I
 simp only [List.cons.injEq, and_true, true_and] at E
 obtain ⟨rfl, rfl⟩ := E
 refine CallR.of Tryz.func41 rfl rfl rfl rfl (sr (bo 2 rfl fun g1 W1 L M => ?_))
 have N := L.o
 refine al 3 [.slice none 0 0, vS ([] : Str), .slice none 0 0] fun g3 W3 F O => ?_
 have P := N.n F
 refine nl (Cw.seq (Cw.draw [4] [(1, 0), (2, 1), (4, 0), (5, 1), (6, 0), (7, 1), (0, 2), (3, 2), (8, 2), (9, 0), (10, 3)] mixed (by kernel_rfl) fun W6 e => ?_))
 have Q := P.n e
 have f := (M.up F).up e
 refine Dfl f rfl rfl rfl (Dfl f rfl rfl rfl (Dfl f rfl rfl rfl (Mw.t rfl rfl (T.lit0 (α := Int) 4 []) ?_)))
 rintro av _ ⟨aw, rfl, l10, S⟩
 have G := Q.n l10
 refine m0 l10 fun U => ?_
 obtain ⟨ax, V, hm⟩ := ob hm
 refine Mw.t rfl rfl (T.appP (α := Int) S (J.ul G) rfl rfl V) ?_
 rintro a _ ⟨ay, rfl, h, W⟩
 have H := G.t h
 refine mc U h fun X => ?_
 obtain ⟨az, Y, hm⟩ := ob hm
 refine Mw.t rfl rfl (T.call rfl (p78 (k0 := 5) (K.ul H) Y)) ?_
 rintro b _ ⟨a0, rfl, d, ⟨_, rfl, i⟩⟩
 have Z := H.n d
 have k := W.up d
 refine mc X d fun a1 => Mw.p rfl rfl (fun _ => R.bd (zs := [.slice none 0 0, vS ([] : Str), .slice none 0 0]) (cs := [a, vS x0.Who, b]) [(0, a), (1, vS x0.Who), (2, b)] rfl rfl rfl (bp_cons k.oc rfl (bp_cons rfl rfl (bp_cons i.oc rfl bp_nil)))) (Mw.lu rfl (T.sta (vs := [a, vS x0.Who, b]) ((((O.up e).up l10).up h).up d) rfl rfl (oc_cons k.oc (oc_cons rfl (oc_cons i.oc oc_nil))) rfl rfl) ?_)
 rintro _ _ ⟨a3, rfl, x, aa⟩
 have ac := Z.t x
 refine Mw.nil ?_
 obtain ⟨a5, ae, y, af⟩ := (k.up x).dyeO 31
 have ah := ac.t y
 obtain ⟨a6, ai, z, aj⟩ := ((i.up x).up y).dyeO 32
 have ak := ah.t z
 cases hm
 rw [← ai.trans (ae)]
 exact Cw.ret (retA1 rfl ((aa.up y).up z) (Res.mk ak ⟨a, b, rfl, (af.up z).s, aj.s⟩))
theorem p41 {x0 d f k0 k1 r} (h : Rd W K [d, vS x0.Who, f] x0) (hm : Vm.spec_l7CopyCommit x0 = some r) : Q1 41 [.agg [d, vS x0.Who, f].toArray] W [] fun W' v => ∃ a b, v = .agg [a, vS r.Who, b].toArray ∧ Ow W' k0 [] [a] r.Parents ∧ Ow W' k1 [] [b] r.Tree :=
 CallR.adJ (J := []) (fun c => bif Nat.beq c 0 then 0 else bif Nat.beq c 31 then k0 else bif Nat.beq c 32 then k1 else 0) (c41 (h.view _) hm) fun _ _ ⟨a, b, e, i, k⟩ => ⟨a, b, e, i.one1.backN rfl, k.one1.backN rfl⟩
theorem c23 {x0 W X r} (h0 : Rd W0 [0] [W, X] x0) (hm : Vm.spec_l7Copy x0 = some r) : Q0 23 [.agg [W, X].toArray] W0 fun Wf v => ∃ Y Z, v = .agg [Y, Z].toArray ∧ OwS Wf [31] [] [Y] r.Commits ∧ OwS Wf [32] [] [Z] r.Heads := by
 unfold Vm.spec_l7Copy at hm
 obtain ⟨b2, b4, aa, ac, aq⟩ := Repo.split h0
 simp only [List.cons.injEq, and_true, true_and] at aa
 obtain ⟨rfl, rfl⟩ := aa
 refine CallR.of Tryz.func23 rfl rfl rfl rfl (sr (bo 2 rfl fun g1 W1 l1 b1 => ?_))
 have a2 := l1.o
 refine al 3 [.slice none 0 0, .slice none 0 0] fun g3 W3 l3 b3 => ?_
 have a4 := a2.n l3
 refine nl (sr (Lw.t rfl (T.lit0 (α := Head) 4 []) ?_))
 rintro v6 _ ⟨W6, rfl, C, o6⟩
 have a7 := a4.n C
 have b8 := (b1.up l3).up C
 refine fl b8 rfl ?_
 obtain ⟨az, a0, hm⟩ := ob hm
 refine Lw.t rfl (T.appP (α := Head) o6 (aq.ul a7) rfl rfl a0) ?_
 rintro D _ ⟨cd, rfl, E, F⟩
 have a1 := a7.t E
 refine Lw.r rfl (R.bd (zs := [.slice none 0 0, .slice none 0 0]) (cs := [.slice none 0 0, D]) [(1, D)] rfl rfl rfl (bp_cons F.oc rfl bp_nil)) (al 5 [.slice none 0 0, .slice none 0 0] fun a3 ce e a5 => ?_)
 have a6 := a1.n e
 refine sta a5 (oc_cons rfl (oc_cons (F.up e).oc oc_nil)) fun ai i a8 => ?_
 have a9 := a6.t i
 refine nl (ssr (Ni rfl (Cw.block ?_)))
 obtain ⟨ba, bb, hm⟩ := jn_e hm
 refine Cw.loop 10 27 [4] (fun m l w => ∃ k G x y f d, CW.w d = w ∧ Le [5, 6, 7, 8] ai d ∧ l = [vI k] ∧ Ow d 6 [] [y] G ∧ Ow d 4 [] [f] x ∧ Bx d 5 a3 [y, f] ∧ Vm.spec_l7Copy_l1 x0 ba m k G x = some r) _ ⟨0, ([] : List Commit), az, .slice none 0 0, D, ai, rfl, Le.refl _ _, rfl, owN 6 [], ((F.up e).up i), a8, hm⟩ ?_
 rintro (_ | cf) _ _ σ ⟨k, G, x, y, f, d, rfl, z, rfl, H, I, L, hm⟩
 ·cases hm
 unfold Vm.spec_l7Copy_l1 at hm
 have M := a9.t z
 have aj := (((b8.up E).up e).up i).up z
 refine ssr (mi rfl (fl aj rfl (Lw.ln x0.Commits (ac.ul M) rfl (Lw.lt rfl (nl (cn hm (fun hm => ?_) fun hm => ?_))))))
 ·refine sk (Cw.seq (Cw.block (Cw.draw [6, 7, 8] [(0, 0), (1, 1), (2, 0), (3, 1), (4, 0), (5, 0), (6, 1), (7, 2), (8, 2), (9, 2), (10, 0), (11, 3)] mixed (by kernel_rfl) fun cg a => ?_)))
  have bc := M.n a
  refine Dfl (L.up a) rfl rfl rfl (Dfl (aj.up a) rfl rfl rfl (Di rfl ?_))
  obtain ⟨N, O, hm⟩ := ob hm
  have P := ac.ul bc
  refine Mw.p rfl rfl (fun _ => R.ix (α := Commit) P O rfl rfl rfl) ?_
  obtain ⟨x53, c54, _, r55⟩ := (P.at_ O).cells
  obtain ⟨ch, ci, rfl, r57, r59⟩ := Commit.split r55
  refine Mw.q rfl rfl (fun _ c => R.lda (cl_cells (P.at_ O).1 rfl c54 c) rfl rfl) (Dc hm (Le.refl _ _) (fun _ => p41 (k0 := 7) (k1 := 8) (Commit.rd (K := [0]) N.Parents N.Who N.Tree r57 r59)) rfl ?_)
  rintro h _ cj hm A ⟨ak, am, rfl, be, bg⟩ bh
  refine Mw.t rfl rfl (T.bs 9 [.agg [ak, vS h.Who, am].toArray] (cs := [ak, vS h.Who, am]) rfl rfl (bsA rfl)) ?_
  rintro _ _ ⟨ck, cl, rfl, rfl, b, bi⟩
  refine mc bh b fun bj => ?_
  obtain ⟨bk, bl, hm⟩ := ob hm
  refine Mw.t rfl rfl (T.app1 (α := Commit) (J := [7, 8]) (K' := []) (((H.up a).up A).up b) bi (Commit.own h.Parents h.Who h.Tree (be.up b).s (bg.up b).s) rfl rfl bl) ?_
  rintro an _ ⟨cm, rfl, B, ao⟩
  refine mc bj B fun co => Df rfl (Mw.lu rfl (T.st (j := 0) (v := an) ((((L.up a).up A).up b).up B) rfl rfl ao.oc rfl rfl) ?_)
  rintro _ _ ⟨bm, rfl, Q, bn⟩
  exact Mw.nil (rg (mi rfl (Lw.add rfl (Ni rfl ((agm) ⟨w64 (k + 1), bk, x, an, f, bm, rfl, (((((z.j a).j A).j b).j B).j Q).w, rfl, (ao.up Q), (((((I.up a).up A).up b).up B).up Q), bn, hm⟩)))))
 ·refine Cw.exit ?_
  rw [bb] at hm
  refine sr (la L (sta (((((b3.up C).up E).up e).up i).up z) (oc_cons H.oc (oc_cons I.oc oc_nil)) fun cp S bp => ?_))
  have bq := M.t S
  refine nl ?_
  obtain ⟨cq, br, U, bu⟩ := (H.up S).dyeO 31
  have bv := bq.t U
  obtain ⟨ct, bw, V, bz⟩ := ((I.up S).up U).dyeO 32
  have b0 := bv.t V
  cases hm
  rw [← bw.trans (br)]
  exact Cw.ret (retA1 rfl ((bp.up U).up V) (Res.mk b0 ⟨y, f, rfl, (bu.up V).s, bz.s⟩))
theorem p23 {x0 d f k0 k1 r} (h : Rd W K [d, f] x0) (hm : Vm.spec_l7Copy x0 = some r) : Q1 23 [.agg [d, f].toArray] W [] fun W' v => ∃ a b, v = .agg [a, b].toArray ∧ Ow W' k0 [] [a] r.Commits ∧ Ow W' k1 [] [b] r.Heads :=
 CallR.adJ (J := []) (fun c => bif Nat.beq c 0 then 0 else bif Nat.beq c 31 then k0 else bif Nat.beq c 32 then k1 else 0) (c23 (h.view _) hm) fun _ _ ⟨a, b, e, i, k⟩ => ⟨a, b, e, i.one1.backN rfl, k.one1.backN rfl⟩
theorem c44 {x0 y a6 x1 x2 r} (h0 : Rd W0 [0] [y, a6] x0) (hm : Vm.spec_l7Head x0 x1 x2 = some r) : Q0 44 [.agg [y, a6].toArray, vS x1, vI x2] W0 fun Wf v => ∃ a8 a9, v = .agg [a8, a9].toArray ∧ Rd Wf [0] [a8] r.Commits ∧ Rd Wf [0] [a9] r.Heads := by
 unfold Vm.spec_l7Head at hm
 obtain ⟨ds, dt, ba, ak, I⟩ := Repo.split h0
 simp only [List.cons.injEq, and_true, true_and] at ba
 obtain ⟨rfl, rfl⟩ := ba
 refine CallR.of Tryz.func44 rfl rfl rfl rfl (sr (bo 2 rfl fun g1 W1 l1 b1 => ?_))
 have a2 := l1.o
 refine al 3 [.slice none 0 0, .slice none 0 0] fun g3 W3 l3 b3 => ?_
 have a4 := a2.n l3
 refine nl (sr (fl (b1.up l3) rfl (Lw.r rfl (R.bd (zs := [.slice none 0 0, .slice none 0 0]) (cs := [y, .slice none 0 0]) [(0, y)] rfl rfl rfl (bp_cons ak.oc rfl bp_nil)) (al 4 [.slice none 0 0, .slice none 0 0] fun J W6 l6 b6 => ?_))))
 have a7 := a4.n l6
 refine sta b6 (oc_cons ak.oc (oc_cons rfl oc_nil)) fun bc l10 cd => ?_
 have be := a7.t l10
 refine nl (sr (Nb rfl (ssr (Ni rfl (Cw.block ?_)))))
 obtain ⟨ce, cf, hm⟩ := jn_e hm
 refine Cw.loop 13 57 [8, 9] (fun m l w => ∃ L N b z d A a, CW.w a = w ∧ Le [4, 5] bc a ∧ l = [vB L, vI N] ∧ Rd a [0] [d] b ∧ Ow a 5 [] [A] z ∧ Bx a 4 J [d, A] ∧ Vm.spec_l7Head_l1 x0 x1 x2 ce m L N b z = some r) _ ⟨false, 0, x0.Commits, ([] : List Head), y, .slice none 0 0, bc, rfl, Le.refl _ _, rfl, (ak.ul be), owN 5 [], cd, hm⟩ ?_
 rintro (_ | dz) _ _ σ ⟨L, N, b, z, d, A, a, rfl, O, rfl, r18, P, Q, hm⟩
 ·cases hm
 unfold Vm.spec_l7Head_l1 at hm
 have ao := be.t O
 have S := (((b1.up l3).up l6).up l10).up O
 refine ssr ?_
 have ap := I.ul ao
 refine mi rfl (fl S rfl (Lw.ln x0.Heads ap rfl (Lw.lt rfl (nl (cn hm (fun hm => ?_) fun hm => ?_)))))
 ·refine sk ?_
  obtain ⟨cg, ch, hm⟩ := jn_e hm
  refine Cw.join 20 57 [8] (fun l w => ∃ U V W X Y e, CW.w e = w ∧ Le [4, 5] a e ∧ l = [vB U] ∧ Rd e [0] [X] V ∧ Ow e 5 [] [Y] W ∧ Bx e 4 J [X, Y] ∧ cg U V W = some r) ?_ ?_
  ·rintro _ _ σ ⟨U, V, W, X, Y, e, rfl, ci, rfl, r35, cj, ck, hm⟩
   rw [ch] at hm
   exact rg (mi rfl (Lw.add rfl (Ni rfl ((agm) ⟨U, w64 (N + 1), V, W, X, Y, e, rfl, (O.j ci).w, rfl, r35, cj, ck, hm⟩))))
  ·refine Cw.block ?_
   obtain ⟨cl, cm, hm⟩ := jn_e hm
   refine Cw.join 20 39 [8] (fun l w => ∃ B C Z D aa f, CW.w f = w ∧ Le [4, 5] a f ∧ l = [vB B] ∧ Rd f [0] [D] C ∧ Ow f 5 [] [aa] Z ∧ Bx f 4 J [D, aa] ∧ cl B C Z = some r) ?_ ?_
   ·rintro _ _ σ ⟨B, C, Z, D, aa, f, rfl, E, rfl, r48, bg, aq, hm⟩
    rw [cm] at hm
    have ar := ao.t E
    refine sr (fl (S.up E) rfl (mi rfl ?_))
    obtain ⟨d0, bh, hm⟩ := ob hm
    refine Lw.r rfl (R.ix (α := Head) (I.ul ar) bh rfl rfl rfl) (Lw.fa rfl (Lw.r rfl (R.ld rfl rfl (Head.at0 ((I.ul ar).at_ bh)).str) (ms rfl (Lw.sne rfl (nl (cn hm (fun hm => ?_) fun hm => ?_))))))
    ·refine Cw.draw [5] [(0, 0), (1, 1), (2, 0), (3, 1), (4, 0), (5, 0), (6, 1), (7, 2), (8, 2), (9, 0), (10, 3)] mixed (by kernel_rfl) fun d1 h => ?_
     have bi := h.o
     refine Dfl (aq.up h) rfl rfl rfl (Dfl ((S.up E).up h) rfl rfl rfl (Di rfl ?_))
     obtain ⟨i, au, hm⟩ := ob hm
     have av := I.ul (ar.trans bi)
     refine Mw.p rfl rfl (fun _ => R.ix (α := Head) av au rfl rfl rfl) ?_
     obtain ⟨x71, c72, _, r73⟩ := (av.at_ au).cells
     obtain rfl := Head.split r73
     refine Mw.q rfl rfl (fun _ c => R.lda (cl_cells (av.at_ au).1 rfl c72 c) rfl rfl) (Mw.t rfl rfl (T.bs 6 [.agg [vS i.Name, vI i.At].toArray] (cs := [vS i.Name, vI i.At]) rfl rfl (bsA rfl)) ?_)
     rintro _ _ ⟨d2, d3, rfl, rfl, F, co⟩
     have cp := bi.n F
     refine m0 F fun cq => ?_
     obtain ⟨ct, cu, hm⟩ := ob hm
     refine Mw.t rfl rfl (T.app1S (α := Head) (K' := []) ((bg.up h).up F) co (Head.rd (K := []) i.Name i.At) rfl rfl cu) ?_
     rintro bj _ ⟨d4, rfl, ac, bk⟩
     have cv := cp.t ac
     refine mc cq ac fun d5 => Df rfl (Mw.lu rfl (T.st (j := 1) (v := bj) (((aq.up h).up F).up ac) rfl rfl bk.oc rfl rfl) ?_)
     rintro _ _ ⟨cw, rfl, aw, cx⟩
     have cy := cv.t aw
     exact Mw.nil ((ag) ⟨B, C, ct, D, bj, cw, rfl, ((((E.j h).j F).j ac).j aw).w, rfl, (r48.ul cy), (bk.up aw), cx, hm⟩)
    ·exact sk ((ag) ⟨B, C, Z, D, aa, f, rfl, E, rfl, r48, bg, aq, hm⟩)
   ·obtain ⟨cz, c0, hm⟩ := jn_e hm
    refine Cw.join 20 31 [31] (fun l w => ∃ ax ae, CW.w ae = w ∧ Le [] a ae ∧ l = [vB ax] ∧ cz ax = some r) ?_ ?_
    ·rintro _ _ σ ⟨ax, ae, rfl, k, rfl, hm⟩
     rw [c0] at hm
     have bl := k.o
     have ay := Q.up k
     refine cn hm (fun hm => ?_) fun hm => ?_
     ·refine sr (fl ay rfl (ms rfl (mi rfl (Lw.r rfl (R.bd (zs := [vS ([] : Str), vI 0]) (cs := [vS x1, vI x2]) [(0, vS x1), (1, vI x2)] rfl rfl rfl (bp_cons rfl rfl (bp_cons rfl rfl bp_nil))) (Lw.t rfl (T.bs 7 [.agg [vS x1, vI x2].toArray] (cs := [vS x1, vI x2]) rfl rfl (bsA rfl)) ?_)))))
      rintro _ _ ⟨d6, d7, rfl, rfl, af, c1⟩
      have c2 := bl.n af
      obtain ⟨c3, c4, hm⟩ := ob hm
      refine Lw.t rfl (T.app1S (α := Head) (K' := []) ((P.up k).up af) c1 (Head.rd (K := []) x1 x2) rfl rfl c4) ?_
      rintro bm _ ⟨d8, rfl, az, bn⟩
      have c5 := c2.t az
      refine Lw.fa rfl (Lw.u (T.st (j := 1) (v := bm) ((ay.up af).up az) rfl rfl bn.oc rfl rfl) ?_)
      rintro _ _ ⟨c6, rfl, a0, c7⟩
      have c8 := c5.t a0
      exact nl (rg (Nb rfl ((ag) ⟨true, b, c3, d, bm, c6, rfl, (((k.j af).j az).j a0).w, rfl, (r18.ul c8), (bn.up a0), c7, hm⟩)))
     ·exact sk ((ag) ⟨L, b, z, d, A, ae, rfl, k.w, rfl, (r18.ul bl), (P.up k), ay, hm⟩)
    ·refine rg (mb rfl (Lw.r rfl (R.not rfl) (mb rfl (bs hm (fun G hm => ?_) fun G hm => ?_))))
     ·refine wak 8 G (fl S rfl (mi rfl ?_))
      obtain ⟨c9, bp, hm⟩ := ob hm
      exact Lw.r rfl (R.ix (α := Head) ap bp rfl rfl rfl) (Lw.fa rfl (Lw.r rfl (R.ld rfl rfl (Head.at0 (ap.at_ bp)).str) (ms rfl (Lw.r rfl (R.sge rfl rfl) (Pb G rfl (nl ((ag) ⟨(!Op.bytesLess c9.Name x1), a, rfl, Le.refl _ _, rfl, hm⟩)))))))
     ·exact psk 8 G rfl (Pb G rfl (nl ((ag) ⟨false, a, rfl, Le.refl _ _, rfl, hm⟩)))
 ·refine Cw.exit ?_
  rw [cf] at hm
  obtain ⟨da, db, hm⟩ := jn_e hm
  refine Cw.join 58 67 [] (fun l w => ∃ a1 ah ai H x, CW.w x = w ∧ Le [4, 5] a x ∧ l = [] ∧ Rd x [0] [ai] a1 ∧ Ow x 5 [] [H] ah ∧ Bx x 4 J [ai, H] ∧ da a1 ah = some r) ?_ ?_
  ·rintro _ _ σ ⟨a1, ah, ai, H, x, rfl, bq, rfl, r131, br, dc, hm⟩
   rw [db] at hm
   have dd := ao.t bq
   refine sr (la dc (sta ((((b3.up l6).up l10).up O).up bq) (oc_cons r131.oc (oc_cons br.oc oc_nil)) fun d9 bu de => ?_))
   have bv := bu.s
   refine nl ?_
   obtain ⟨df, dg, bw, dh⟩ := dyeE _ 5
   have di : Rd (α := List Vm.Head) df [0] [H] ah := by rw [dh]; exact ((br.up bu).rd.dye 5).sub (M := [0]) rfl
   have bz := bw.s
   cases hm
   rw [← dg]
   exact Cw.ret (retA1 rfl (de.up bw) (Res.mk ((dd.trans bv).trans bz) ⟨ai, H, rfl, (r131.ul (bv.trans bz)), di⟩))
  ·refine sr (mb rfl (Lw.r rfl (R.not rfl) (nl (cn hm (fun hm => ?_) fun hm => ?_))))
   ·refine rg (fl Q rfl (ms rfl (mi rfl (Lw.r rfl (R.bd (zs := [vS ([] : Str), vI 0]) (cs := [vS x1, vI x2]) [(0, vS x1), (1, vI x2)] rfl rfl rfl (bp_cons rfl rfl (bp_cons rfl rfl bp_nil))) (Lw.t rfl (T.bs 8 [.agg [vS x1, vI x2].toArray] (cs := [vS x1, vI x2]) rfl rfl (bsA rfl)) ?_)))))
    rintro _ _ ⟨ea, eb, rfl, rfl, aj, dj⟩
    have dk := aj.o
    obtain ⟨dl, dm, hm⟩ := ob hm
    refine Lw.t rfl (T.app1S (α := Head) (K' := []) (P.up aj) dj (Head.rd (K := []) x1 x2) rfl rfl dm) ?_
    rintro b0 _ ⟨ec, rfl, a3, b2⟩
    have dn := dk.t a3
    refine Lw.fa rfl (Lw.u (T.st (j := 1) (v := b0) ((Q.up aj).up a3) rfl rfl b2.oc rfl rfl) ?_)
    rintro _ _ ⟨dp, rfl, a5, dq⟩
    have dr := dn.t a5
    exact nl ((ag) ⟨b, dl, d, b0, dp, rfl, ((aj.j a3).j a5).w, rfl, (r18.ul dr), (b2.up a5), dq, hm⟩)
   ·exact sk ((ag) ⟨b, z, d, A, a, rfl, Le.refl _ _, rfl, r18, P, Q, hm⟩)
theorem p44 {x0 d f x1 x2 r} (h : Rd W K [d, f] x0) (hm : Vm.spec_l7Head x0 x1 x2 = some r) : Q1 44 [.agg [d, f].toArray, vS x1, vI x2] W [] fun W' v => ∃ a b, v = .agg [a, b].toArray ∧ Rd W' (0 :: K) [a] r.Commits ∧ Rd W' (0 :: K) [b] r.Heads :=
 (c44 (h.view _) hm).ad (fk 0) fun _ _ ⟨a, b, e, i, k⟩ => ⟨a, b, e, i.back rfl, k.back rfl⟩
theorem c114 {x0 a x1 r} (b : Rd W0 [0] [a] x0) (hm : Vm.spec_l5Put x0 x1 = some r) : Q0 114 [a, vS x1] W0 fun Wf v => ∃ F, v = F ∧ Rd Wf [0] [F] r := by
 unfold Vm.spec_l5Put at hm
 refine CallR.of Tryz.func114 rfl rfl rfl rfl (sr (Nv (.slice none 0 0) rfl (sr (Ni rfl (Cw.seq (Cw.block ?_))))))
 obtain ⟨Q, S, hm⟩ := jn_e hm
 refine Cw.loop 7 20 [5] (fun m l w => ∃ i e, CW.w e = w ∧ Le [] W0 e ∧ l = [vI i] ∧ Vm.spec_l5Put_l1 x0 x1 Q m i = some r) _ ⟨0, W0, rfl, Le.refl _ _, rfl, hm⟩ ?_
 rintro (_ | m4) _ _ σ ⟨i, e, rfl, G, rfl, hm⟩
 ·cases hm
 unfold Vm.spec_l5Put_l1 at hm
 have k := G.o
 refine Cw.seq ?_
 obtain ⟨U, V, hm⟩ := jn_e hm
 refine Cw.join 7 18 [18] (fun l w => ∃ y d, CW.w d = w ∧ Le [] e d ∧ l = [vB y] ∧ U y = some r) ?_ ?_
 ·rintro _ _ σ ⟨y, d, rfl, H, rfl, hm⟩
  rw [V] at hm
  have x := k.n H
  refine cn hm (fun hm => ?_) fun hm => ?_
  ·exact sk (Cw.block (rg (mi rfl (Lw.add rfl (Ni rfl ((agm) ⟨w64 (i + 1), d, rfl, (G.j H).w, rfl, hm⟩))))))
  ·refine Cw.exit ?_
   rw [S] at hm
   refine Cw.seq ?_
   obtain ⟨W, X, hm⟩ := jn_e hm
   refine Cw.join 21 32 [32] (fun l w => ∃ z A, CW.w A = w ∧ Le [] d A ∧ l = [vB z] ∧ W z = some r) ?_ ?_
   ·rintro _ _ σ ⟨z, A, rfl, Y, rfl, hm⟩
    rw [X] at hm
    have B := x.n Y
    refine cn hm (fun hm => ?_) fun hm => ?_
    ·refine sr (mv a rfl (Nv a rfl ?_))
     cases hm
     exact Cw.ret (ret1 rfl (Res.mk B ⟨a, rfl, (b.ul B)⟩))
    ·refine sk (sr (Lw.t rfl (T.lit0 (α := Str) 2 []) ?_))
     rintro a4 _ ⟨a6, rfl, Z, aa⟩
     have C := B.n Z
     refine mv a rfl (mi rfl ?_)
     obtain ⟨a7, I, hm⟩ := ob hm
     have r23 := (b.ul C).cutV I
     refine Lw.r rfl (R.sl (b.ul C) I rfl (.inl ⟨rfl, rfl⟩) (.inr rfl)) ?_
     obtain ⟨a8, ac, hm⟩ := ob hm
     refine Lw.t rfl (T.appP (α := Str) aa r23 rfl rfl ac) ?_
     rintro J _ ⟨ba, rfl, ae, af⟩
     have ah := C.t ae
     refine Nv J rfl (sr (mv J rfl (ms rfl (Lw.t rfl (T.bs 3 [vS x1] (cs := [vS x1]) rfl rfl (bsv rfl)) ?_))))
     rintro _ _ ⟨bb, bc, rfl, rfl, K, ai⟩
     have aj := ah.n K
     obtain ⟨be, ak, hm⟩ := ob hm
     refine Lw.t rfl (T.app1S (α := Str) (K' := []) (af.up K) ai (rdS _) rfl rfl ak) ?_
     rintro L _ ⟨bg, rfl, am, an⟩
     have D := aj.t am
     refine Nv L rfl (sr (mv L rfl (mv a rfl (mi rfl ?_))))
     obtain ⟨bh, N, hm⟩ := ob hm
     have r40 := (b.ul D).cutV N
     refine Lw.r rfl (R.sl (b.ul D) N rfl (.inr rfl) (.inl ⟨rfl, rfl⟩)) ?_
     obtain ⟨ao, ap, hm⟩ := ob hm
     refine Lw.t rfl (T.appP (α := Str) an r40 rfl rfl ap) ?_
     rintro E _ ⟨bi, rfl, aq, ar⟩
     have au := D.t aq
     refine Nv E rfl ?_
     obtain ⟨av, aw, ax, ay⟩ := dyeE _ 2
     have az : Rd (α := List Str) av [0] [E] ao := by rw [ay]; exact (ar.rd.dye 2).sub (M := [0]) rfl
     have a0 := au.t ax
     cases hm
     rw [← aw]
     exact Cw.ret (ret1 rfl (Res.mk a0 ⟨E, rfl, az⟩))
   ·refine rg (mi rfl (mv a rfl (Lw.ln x0 (b.ul x) rfl (Lw.lt rfl (mb rfl (bs hm (fun f hm => ?_) fun f hm => ?_))))))
    ·refine wak 6 f (mv a rfl (mi rfl ?_))
     obtain ⟨a1, O, hm⟩ := ob hm
     exact Lw.r rfl (R.ix (α := Str) (b.ul x) O rfl rfl rfl) (Lw.r rfl (R.ld rfl rfl ((b.ul x).at_ O).str) (ms rfl (Lw.seq rfl (Pb f rfl (nl ((ag) ⟨(a1 == x1), d, rfl, Le.refl _ _, rfl, hm⟩))))))
    ·exact psk 6 f rfl (Pb f rfl (nl ((ag) ⟨false, d, rfl, Le.refl _ _, rfl, hm⟩)))
 ·refine rg (mi rfl (mv a rfl (Lw.ln x0 (b.ul k) rfl (Lw.lt rfl (mb rfl (bs hm (fun h hm => ?_) fun h hm => ?_))))))
  ·refine wak 6 h (mv a rfl (mi rfl ?_))
   obtain ⟨a2, P, hm⟩ := ob hm
   exact Lw.r rfl (R.ix (α := Str) (b.ul k) P rfl rfl rfl) (Lw.r rfl (R.ld rfl rfl ((b.ul k).at_ P).str) (ms rfl (Lw.r rfl (R.slt rfl rfl) (Pb h rfl (nl ((ag) ⟨Op.bytesLess a2 x1, e, rfl, Le.refl _ _, rfl, hm⟩))))))
  ·exact psk 6 h rfl (Pb h rfl (nl ((ag) ⟨false, e, rfl, Le.refl _ _, rfl, hm⟩)))
theorem p114 {x0 b x1 r} (d : Rd W K [b] x0) (hm : Vm.spec_l5Put x0 x1 = some r) : Q1 114 [b, vS x1] W [] fun W' v => ∃ a, v = a ∧ Rd W' (0 :: K) [a] r :=
 (c114 (d.view _) hm).ad (fk 0) fun _ _ ⟨a, e, f⟩ => ⟨a, e, f.back rfl⟩
theorem c99 {x0 h x1 i x2 k r} (G : Rd W0 [0] [h] x0) (H : Rd W0 [0] [i] x1) (I : Rd W0 [0] [k] x2) (hm : Vm.spec_l6Paths x0 x1 x2 = some r) : Q0 99 [h, i, k] W0 fun Wf v => ∃ N, v = N ∧ Rd Wf [0] [N] r := by
 unfold Vm.spec_l6Paths at hm
 refine CallR.of Tryz.func99 rfl rfl rfl rfl (sr (Nv (.slice none 0 0) rfl (sr (Lw.t rfl (T.lit0 (α := Str) 2 []) ?_))))
 rintro J _ ⟨W1, rfl, Y, Z⟩
 have a2 := Y.o
 refine Nv J rfl (ssr (Ni rfl (Cw.block ?_)))
 obtain ⟨K, ac, l3, af⟩ := dyeE _ 2
 rw [← ac]
 have s4 : Rd (α := List Str) K [0] [J] ([] : List Str) := by rw [af]; exact (Z.rd.dye 2).sub (M := [0]) rfl
 have a5 := a2.t l3
 obtain ⟨aj, ak, hm⟩ := jn_e hm
 refine Cw.loop 12 24 [7, 8] (fun m l w => ∃ x y e b, CW.w b = w ∧ Le [] K b ∧ l = [e, vI y] ∧ Rd b [0] [e] x ∧ Vm.spec_l6Paths_l1 x0 aj m x y = some r) _ ⟨([] : List Str), 0, J, K, rfl, Le.refl _ _, rfl, s4, hm⟩ ?_
 rintro (_ | ba) _ _ σ ⟨x, y, e, b, rfl, l10, rfl, r8, hm⟩
 ·cases hm
 unfold Vm.spec_l6Paths_l1 at hm
 have z := a5.n l10
 refine ssr (mi rfl (mv h rfl (Lw.ln x0 (G.ul z) rfl (Lw.lt rfl (nl (cn hm (fun hm => ?_) fun hm => ?_))))))
 ·refine sk (Cw.seq (Cw.block (rg (mv e rfl (mv h rfl (mi rfl ?_))))))
  obtain ⟨bb, O, hm⟩ := ob hm
  refine Lw.r rfl (R.ix (α := File) (G.ul z) O rfl rfl rfl) (Lw.fa rfl (Lw.r rfl (R.ld rfl rfl (File.at0 ((G.ul z).at_ O)).str) (cr hm (fun _ => p114 r8) ?_)))
  rintro am P an hm ao ⟨_, rfl, ap⟩
  have aq := ap.sub (M := [0]) rfl
  exact Nv P rfl (rg (mi rfl (Lw.add rfl (Ni rfl ((agm) ⟨am, w64 (y + 1), P, an, rfl, (l10.j ao).w, rfl, aq, hm⟩)))))
 ·refine Cw.exit ?_
  rw [ak] at hm
  refine ssr (Ni rfl (Cw.block ?_))
  obtain ⟨ar, au, hm⟩ := jn_e hm
  refine Cw.loop 25 37 [7, 9] (fun m l w => ∃ A B f d, CW.w d = w ∧ Le [] b d ∧ l = [f, vI B] ∧ Rd d [0] [f] A ∧ Vm.spec_l6Paths_l2 x1 ar m A B = some r) _ ⟨x, 0, e, b, rfl, Le.refl _ _, rfl, r8, hm⟩ ?_
  rintro (_ | bc) _ _ σ ⟨A, B, f, d, rfl, Q, rfl, r25, hm⟩
  ·cases hm
  unfold Vm.spec_l6Paths_l2 at hm
  have C := z.n Q
  refine ssr (mi rfl (mv i rfl (Lw.ln x1 (H.ul C) rfl (Lw.lt rfl (nl (cn hm (fun hm => ?_) fun hm => ?_))))))
  ·refine sk (Cw.seq (Cw.block (rg (mv f rfl (mv i rfl (mi rfl ?_))))))
   obtain ⟨be, S, hm⟩ := ob hm
   refine Lw.r rfl (R.ix (α := File) (H.ul C) S rfl rfl rfl) (Lw.fa rfl (Lw.r rfl (R.ld rfl rfl (File.at0 ((H.ul C).at_ S)).str) (cr hm (fun _ => p114 r25) ?_)))
   rintro av U aw hm ax ⟨_, rfl, ay⟩
   have az := ay.sub (M := [0]) rfl
   exact Nv U rfl (rg (mi rfl (Lw.add rfl (Ni rfl ((agm) ⟨av, w64 (B + 1), U, aw, rfl, (Q.j ax).w, rfl, az, hm⟩)))))
  ·refine Cw.exit ?_
   rw [au] at hm
   refine ssr (Ni rfl (Cw.block ?_))
   obtain ⟨a0, a1, hm⟩ := jn_e hm
   refine Cw.loop 38 50 [7, 10] (fun m l w => ∃ L D a E, CW.w E = w ∧ Le [] d E ∧ l = [a, vI D] ∧ Rd E [0] [a] L ∧ Vm.spec_l6Paths_l3 x2 a0 m L D = some r) _ ⟨A, 0, f, d, rfl, Le.refl _ _, rfl, r25, hm⟩ ?_
   rintro (_ | bg) _ _ σ ⟨L, D, a, E, rfl, V, rfl, r42, hm⟩
   ·cases hm
   unfold Vm.spec_l6Paths_l3 at hm
   have F := C.n V
   refine ssr (mi rfl (mv k rfl (Lw.ln x2 (I.ul F) rfl (Lw.lt rfl (nl (cn hm (fun hm => ?_) fun hm => ?_))))))
   ·refine sk (Cw.seq (Cw.block (rg (mv a rfl (mv k rfl (mi rfl ?_))))))
    obtain ⟨bh, W, hm⟩ := ob hm
    refine Lw.r rfl (R.ix (α := File) (I.ul F) W rfl rfl rfl) (Lw.fa rfl (Lw.r rfl (R.ld rfl rfl (File.at0 ((I.ul F).at_ W)).str) (cr hm (fun _ => p114 r42) ?_)))
    rintro a3 X a4 hm a6 ⟨_, rfl, a7⟩
    have a8 := a7.sub (M := [0]) rfl
    exact Nv X rfl (rg (mi rfl (Lw.add rfl (Ni rfl ((agm) ⟨a3, w64 (D + 1), X, a4, rfl, (V.j a6).w, rfl, a8, hm⟩)))))
   ·refine Cw.exit ?_
    rw [a1] at hm
    refine sr (mv a rfl (Nv a rfl ?_))
    cases hm
    exact Cw.ret (ret1 rfl (Res.mk F ⟨a, rfl, r42⟩))
theorem p99 {x0 b x1 d x2 f r} (h : Rd W K [b] x0) (i : Rd W K [d] x1) (k : Rd W K [f] x2) (hm : Vm.spec_l6Paths x0 x1 x2 = some r) : Q1 99 [b, d, f] W [] fun W' v => ∃ a, v = a ∧ Rd W' (0 :: K) [a] r :=
 (c99 (h.view _) (i.view _) (k.view _) hm).ad (fk 0) fun _ _ ⟨a, e, x⟩ => ⟨a, e, x.back rfl⟩
theorem c115 {x0 a x1 r} (C : Rd W0 [0] [a] x0) (hm : Vm.spec_l4Get x0 x1 = some r) : Q0 115 [a, vS x1] W0 fun Wf v => ∃ x, v = .tuple [x, vB r.2].toArray ∧ Rd Wf [0] [x] r.1 := by
 unfold Vm.spec_l4Get at hm
 refine CallR.of Tryz.func115 rfl rfl rfl rfl (sr (Gv (.slice none 0 0) rfl (Nb rfl (ssr (Ni rfl (Cw.block ?_))))))
 obtain ⟨D, E, hm⟩ := jn_e hm
 refine Cw.loop 7 24 [4, 5, 6] (fun m l w => ∃ e f h i b, CW.w b = w ∧ Le [] W0 b ∧ l = [i, vB f, vI h] ∧ Ow b 2 [] [i] e ∧ Vm.spec_l4Get_l1 x0 x1 D m e f h = some r) _ ⟨([] : List Str), false, 0, .slice none 0 0, W0, rfl, Le.refl _ _, rfl, owN 2 [], hm⟩ ?_
 rintro (_ | G) _ _ σ ⟨e, f, h, i, b, rfl, y, rfl, F, hm⟩
 ·cases hm
 unfold Vm.spec_l4Get_l1 at hm
 have k := y.o
 refine ssr ?_
 have d := C.ul k
 refine mi rfl (mv a rfl (Lw.ln x0 d rfl (Lw.lt rfl (nl (cn hm (fun hm => ?_) fun hm => ?_)))))
 ·refine sk (Cw.seq (Cw.block (sr (mv a rfl (mi rfl ?_)))))
  obtain ⟨H, z, hm⟩ := ob hm
  refine Lw.r rfl (R.ix (α := File) d z rfl rfl rfl) (Lw.fa rfl (Lw.r rfl (R.ld rfl rfl (File.at0 (d.at_ z)).str) (ms rfl (Lw.seq rfl (nl (cn hm (fun hm => ?_) fun hm => ?_))))))
  ·refine sr (mv a rfl (mi rfl ?_))
   obtain ⟨I, A, hm⟩ := ob hm
   refine Lw.r rfl (R.ix (α := File) d A rfl rfl rfl) (Lw.fa rfl ?_)
   obtain ⟨B, c18, r19⟩ := (File.at1 (d.at_ A)).cell rfl
   refine Lw.r rfl (R.ld rfl rfl c18) (Gv B rfl (Nb rfl ?_))
   cases hm
   exact Cw.ret (ret2 rfl rfl (Res.mk k ⟨B, rfl, r19⟩))
  ·exact sk (rg (mi rfl (Lw.add rfl (Ni rfl ((agm) ⟨e, f, w64 (h + 1), i, b, rfl, y, rfl, F, hm⟩)))))
 ·refine Cw.exit ?_
  rw [E] at hm
  refine sr (Gv (.slice none 0 0) rfl (Nb rfl ?_))
  cases hm
  exact Cw.ret (ret2 rfl rfl (Res.mk k ⟨.slice none 0 0, rfl, (rdN (K := [0]))⟩))
theorem p115 {x0 b x1 r} (d : Rd W K [b] x0) (hm : Vm.spec_l4Get x0 x1 = some r) : Q1 115 [b, vS x1] W [] fun W' v => ∃ a, v = .tuple [a, vB r.2].toArray ∧ Rd W' (0 :: K) [a] r.1 :=
 (c115 (d.view _) hm).ad (fk 0) fun _ _ ⟨a, e, f⟩ => ⟨a, e, f.back rfl⟩
theorem c130 {x0 b x1 e r} (d : Rd W0 [0] [b] x0) (f : Rd W0 [0] [e] x1) (hm : Vm.spec_l1Same x0 x1 = some r) : Q0 130 [b, e] W0 fun Wf v => v = vB r := by
 unfold Vm.spec_l1Same at hm
 refine CallR.of Tryz.func130 rfl rfl rfl rfl (sr (Nb rfl (ssr (mv b rfl (Lw.ln x0 d rfl (mv e rfl (Lw.ln x1 f rfl (Lw.ne rfl (nl (cn hm (fun hm => ?_) fun hm => ?_))))))))))
 ·exact sr (Nb rfl (.ret (rt hm (Le.refl _ _))))
 ·refine sk (ssr (Ni rfl (Cw.block ?_)))
  obtain ⟨B, C, hm⟩ := jn_e hm
  refine Cw.loop 11 25 [4, 5] (fun m l w => ∃ h i k, CW.w k = w ∧ Le [] W0 k ∧ l = [vB h, vI i] ∧ Vm.spec_l1Same_l1 x0 x1 B m h i = some r) _ ⟨false, 0, W0, rfl, Le.refl _ _, rfl, hm⟩ ?_
  rintro (_ | E) _ _ σ ⟨h, i, k, rfl, A, rfl, hm⟩
  ·cases hm
  unfold Vm.spec_l1Same_l1 at hm
  have x := A.o
  refine ssr (mi rfl (mv b rfl (Lw.ln x0 (d.ul x) rfl (Lw.lt rfl (nl (cn hm (fun hm => ?_) fun hm => ?_))))))
  ·refine sk (Cw.seq (Cw.block (Cw.seq (Cw.draw [] [(0, 0), (1, 0), (2, 0), (3, 1), (4, 0), (5, 0), (6, 0), (7, 1), (8, 0)] mixed (by kernel_rfl) fun D l10 => ?_))))
   have a := x.n l10
   refine Dv b rfl (Di rfl ?_)
   obtain ⟨F, y, hm⟩ := ob hm
   refine Mw.p rfl rfl (fun _ => R.ix (α := Str) (d.ul a) y rfl rfl rfl) (Mw.q rfl rfl (fun _ c => R.ld rfl rfl (cl_cell ((d.ul a).at_ y).1 rfl ((d.ul a).at_ y).str c)) (Dv e rfl (Di rfl ?_)))
   obtain ⟨G, z, hm⟩ := ob hm
   refine Mw.p rfl rfl (fun _ => R.ix (α := Str) (f.ul a) z rfl rfl rfl) (Mw.q rfl rfl (fun _ c => R.ld rfl rfl (cl_cell ((f.ul a).at_ z).1 rfl ((f.ul a).at_ z).str c)) (Mw.p rfl rfl (fun _ => R.sne rfl rfl) (Mw.nil (cn hm (fun hm => ?_) fun hm => ?_))))
   ·exact sr (Nb rfl (.ret (rt hm a)))
   ·exact sk (rg (mi rfl (Lw.add rfl (Ni rfl ((agm) ⟨h, w64 (i + 1), D, rfl, (A.j l10).w, rfl, hm⟩)))))
  ·refine Cw.exit ?_
   rw [C] at hm
   exact sr (Nb rfl (.ret (rt hm x)))
theorem p130 {x0 a x1 b r} (d : Rd W K [a] x0) (f : Rd W K [b] x1) (hm : Vm.spec_l1Same x0 x1 = some r) : Q1 130 [a, b] W [] fun W' v => v = vB r :=
 (c130 (d.view _) (f.view _) hm).ad (fk 0) fun _ _ e => e
theorem c116 {x0 d x1 x2 e x3 r} (i : Rd W0 [0] [d] x0) (k : Rd W0 [0] [e] x2) (hm : Vm.spec_l6Same x0 x1 x2 x3 = some r) : Q0 116 [d, vB x1, e, vB x3] W0 fun Wf v => v = vB r := by
 unfold Vm.spec_l6Same at hm
 refine CallR.of Tryz.func116 rfl rfl rfl rfl (sr (Nb rfl ?_))
 obtain ⟨x, y, hm⟩ := jn_e hm
 refine Cw.join 9 20 [8] (fun l w => ∃ f h, CW.w h = w ∧ Le [] W0 h ∧ l = [vB f] ∧ x f = some r) ?_ ?_
 ·rintro _ _ σ ⟨f, h, rfl, z, rfl, hm⟩
  rw [y] at hm
  have A := z.o
  exact .ret (rt hm A)
 ·refine rg (mb rfl (mb rfl (Lw.r rfl (R.beq rfl rfl) (mb rfl (bs hm (fun a hm => ?_) fun a hm => ?_)))))
  ·refine wak 3 a (mb rfl (Lw.r rfl (R.not rfl) (mb rfl (bs hm (fun b hm => ?_) fun b hm => ?_))))
   ·exact psk 3 b rfl (wak 1 a (Pb b rfl (Pb a rfl (Nb rfl ((ag) ⟨true, W0, rfl, Le.refl _ _, rfl, hm⟩)))))
   ·exact wak 3 b (mv d rfl (mv e rfl (ca hm (fun _ => p130 i k) fun B C hm D => wak 1 a (Pb b rfl (Pb a rfl (Nb rfl ((ag) ⟨B, C, rfl, D, rfl, hm⟩)))))))
  ·exact psk 3 a rfl (puk 3 rfl (psk 1 a rfl (Pb a rfl (Nb rfl ((ag) ⟨false, W0, rfl, Le.refl _ _, rfl, hm⟩)))))
theorem p116 {x0 a x1 x2 b x3 r} (d : Rd W K [a] x0) (f : Rd W K [b] x2) (hm : Vm.spec_l6Same x0 x1 x2 x3 = some r) : Q1 116 [a, vB x1, b, vB x3] W [] fun W' v => v = vB r :=
 (c116 (d.view _) (f.view _) hm).ad (fk 0) fun _ _ e => e
end Go.Sx
