/- Walks: each function answers as its model, printed by a program of ours. Conditions: the arguments read as they are given. -/
import Derived.Test.YtokbhelngoeblaaGreatDoorGTs
import Derived.Test.YtokbhelngoeblaaGreatDoorGM0
import Derived.Test.YtokbhelngoeblaaGreatDoorGW0
import Derived.Test.YtokbhelngoeblaaGreatDoorGE
namespace Go.Sx
open Go Go.Proofs Go.Vm Rp
set_option linter.unusedVariables false
set_option linter.unusedSimpArgs false
variable {W W0 : CW} {K : List Nat}
theorem c55 {x0 ah F r} (h0 : Rd W0 [0] [ah, F] x0) (hm : Vm.zfg x0 = some r) : Q0 55 [.agg [ah, F].toArray] W0 fun Wf v => v = vB r := by
 unfold Vm.zfg at hm
 obtain ⟨c2, c3, bb, ai, aj⟩ := Repo.split h0
 simp only [List.cons.injEq, and_true, true_and] at bb
 obtain ⟨rfl, rfl⟩ := bb
 refine zaj.of Tryz.func55 rfl rfl rfl rfl (sr (bo 2 rfl fun g1 W1 l1 b1 => ?_))
 have a2 := l1.o
 refine Nb rfl (ssr (Ni rfl (Cw.block ?_)))
 obtain ⟨K8, b2, hm⟩ := zaS hm
 refine Cw.loop 7 66 [2, 3, 4, 5] (fun m l w => ∃ G H j5 j6 I, CW.w I = w ∧ Le [3] W1 I ∧ l = [vB G, vI H, j5, j6] ∧ Vm.zds x0 K8 m G H = some r) _ ⟨false, 0, undef, undef, W1, rfl, Le.refl _ _, rfl, hm⟩ ?_
 rintro (_ | m9) _ _ σ ⟨G, H, j5, j6, I, rfl, l7, rfl, hm⟩
 ·cases hm
 unfold Vm.zds at hm
 have V := a2.t l7
 have am := b1.up l7
 refine ssr ?_
 have an := ai.ul V
 refine mi rfl (fl am rfl (Lw.ln x0.Commits an rfl (Lw.lt rfl (nl (cn hm (fun hm => ?_) fun hm => ?_)))))
 ·refine sk (Cw.seq (Cw.block (sr (fl am rfl (mi rfl ?_)))))
  obtain ⟨ao, bh, hm⟩ := ob hm
  refine Lw.r rfl (R.ix (α := Commit) an bh rfl rfl rfl) ?_
  obtain ⟨x16, c17, _, r18⟩ := (an.at_ bh).cells
  obtain ⟨bi, c6, rfl, r20, r22⟩ := Commit.split r18
  refine Lw.r rfl (R.lda c17 rfl rfl) (al 3 [.slice none 0 0, vS ([] : Str), .slice none 0 0] fun b3 c7 bj b4 => ?_)
  have J := bj.o
  refine sta b4 (zaa r20.oc (zaa rfl (zaa r22.oc zaR))) fun bk bl b5 => ?_
  have K := bl.s
  refine nl (ssr (Ni rfl (Cw.block ?_)))
  obtain ⟨b6, b7, hm⟩ := zaS hm
  refine Cw.loop 19 50 [2, 5] (fun m l w => ∃ L x z, CW.w z = w ∧ Le [] bk z ∧ l = [vB L, vI x] ∧ Vm.zcx H ao b6 m L x = some r) _ ⟨G, 0, bk, rfl, Le.refl _ _, rfl, hm⟩ ?_
  rintro (_ | c8) _ _ σ ⟨L, x, z, rfl, W, rfl, hm⟩
  ·cases hm
  unfold Vm.zcx at hm
  have M := W.o
  have N := b5.up W
  refine ssr ?_
  have bm := r20.ul ((J.trans K).trans M)
  refine mi rfl (fl N rfl (Lw.ln ao.Parents bm rfl (Lw.lt rfl (nl (cn hm (fun hm => ?_) fun hm => ?_)))))
  ·refine sk (Cw.seq (Cw.block ?_))
   obtain ⟨b8, b9, hm⟩ := zaS hm
   refine Cw.join 26 50 [50] (fun l w => ∃ ap X, CW.w X = w ∧ Le [] z X ∧ l = [vB ap] ∧ b8 ap = some r) ?_ ?_
   ·rintro _ _ σ ⟨ap, X, rfl, bn, rfl, hm⟩
    rw [b9] at hm
    have cb := (((V.trans J).trans K).trans M).n bn
    refine cn hm (fun hm => ?_) fun hm => ?_
    ·exact sr (Nb rfl (.ret (rt hm cb)))
    ·exact sk (rg (mi rfl (Lw.add rfl (Ni rfl ((agm) ⟨L, w64 (x + 1), X, rfl, (W.j bn).w, rfl, hm⟩)))))
   ·refine Cw.draw [] [(0, 0), (1, 1), (2, 0), (3, 0), (4, 1), (5, 0), (6, 0), (7, 2), (8, 0), (9, 0), (10, 0), (11, 0), (12, 0), (13, 0), (14, 1), (15, 0), (16, 0), (17, 1), (18, 0), (19, 1), (20, 0), (21, 1), (22, 0), (23, 0), (24, 0)] mixed (by kernel_rfl) fun c9 O => ?_
    have cc := ((J.trans K).trans M).n O
    have aq := N.up O
    refine Dfl aq rfl rfl rfl (Di rfl ?_)
    obtain ⟨da, ar, hm⟩ := ob hm
    have i := r20.ul cc
    refine Mw.p rfl rfl (fun _ => R.ix (α := Int) i ar rfl rfl rfl) (Mw.q rfl rfl (fun _ c => R.ld rfl rfl (zah (i.at_ ar).1 rfl (i.at_ ar).int c)) (Di rfl (Mw.p rfl rfl (fun _ => R.sub rfl rfl) (Dc hm (Le.refl _ _) (fun _ => p57) rfl ?_))))
    rintro db _ au hm av rfl dc
    refine Mw.p rfl rfl (fun _ => R.not rfl) (Db rfl (bs hm (fun f hm => ?_) fun f hm => ?_))
    ·exact dps 3 f rfl (dpu 10 rfl (dps 1 f rfl (Mw.p rfl rfl (fun _ => R.pk f rfl (v := vB true) rfl) (Mw.nil ((ag) ⟨true, au, rfl, (O.j av).w, rfl, hm⟩)))))
    ·refine Wp f rfl (fun _ => R.mv (v := vI x) rfl) (Wp f rfl (fun _ => R.gt rfl rfl) (Wp f rfl (fun _ => R.mv (v := vB (decide ((0 : Int) < (x : Int)))) rfl) (bs hm (fun d hm => ?_) fun d hm => ?_)))
     ·refine Wp d rfl (fun _ => R.fa rfl) (Wq d rfl (fun _ c => R.ld (v := bi) rfl rfl (aq.clc rfl rfl c)) (Wp d rfl (fun _ => R.mv (v := vI x) rfl) ?_))
      obtain ⟨aw, ax, hm⟩ := ob hm
      refine Wp d rfl (fun _ => R.ix (α := Int) i ax rfl rfl rfl) (Wq d rfl (fun _ c => R.ld rfl rfl (zah (i.at_ ax).1 rfl (i.at_ ax).int c)) (Wp d rfl (fun _ => R.fa rfl) (Wq d rfl (fun _ c => R.ld (v := bi) rfl rfl (aq.clc rfl rfl c)) ?_)))
      obtain ⟨ay, az, hm⟩ := ob hm
      exact Wp d rfl (fun _ => R.ix (α := Int) i az rfl rfl rfl) (Wq d rfl (fun _ c => R.ld rfl rfl (zah (i.at_ az).1 rfl (i.at_ az).int c)) (Wp d rfl (fun _ => R.eq rfl rfl) (Wp f rfl (fun _ => R.pk d rfl (v := vB ((aw : Int) == (ay : Int))) rfl) (Mw.p rfl rfl (fun _ => R.pk f rfl (v := vB ((aw : Int) == (ay : Int))) rfl) (Mw.nil ((ag) ⟨((aw : Int) == (ay : Int)), au, rfl, (O.j av).w, rfl, hm⟩))))))
     ·exact dps 10 d rfl (Wp f rfl (fun _ => R.pk d rfl (v := vB false) rfl) (Mw.p rfl rfl (fun _ => R.pk f rfl (v := vB false) rfl) (Mw.nil ((ag) ⟨false, au, rfl, (O.j av).w, rfl, hm⟩))))
  ·refine Cw.exit ?_
   rw [b7] at hm
   obtain ⟨cd, ce, hm⟩ := zaS hm
   refine Cw.join 51 66 [66] (fun l w => ∃ a0 Y, CW.w Y = w ∧ Le [] z Y ∧ l = [vB a0] ∧ cd a0 = some r) ?_ ?_
   ·rintro _ _ σ ⟨a0, Y, rfl, bp, rfl, hm⟩
    rw [ce] at hm
    have cf := (((V.trans J).trans K).trans M).n bp
    refine cn hm (fun hm => ?_) fun hm => ?_
    ·exact sr (Nb rfl (.ret (rt hm cf)))
    ·exact sk (rg (mi rfl (Lw.add rfl (Ni rfl ((agm) ⟨L, w64 (H + 1), ptr (bx b3), vI x, Y, rfl, ((((l7.j bj).j bl).j W).j bp).w, rfl, hm⟩)))))
   ·refine rg (fl N rfl (Lw.ln ao.Parents bm rfl (Lw.gt rfl (mb rfl (bs hm (fun P hm => ?_) fun P hm => ?_)))))
    ·exact psk 4 P rfl (Pb P rfl (mb rfl (psk 4 rfl rfl (Pb rfl rfl (nl ((ag) ⟨true, z, rfl, Le.refl _ _, rfl, hm⟩))))))
    ·refine wak 4 P (fl N rfl (ca hm (fun _ => p113) fun dd cg hm Z => ?_))
     have ch := ((J.trans K).trans M).n Z
     refine Lw.r rfl (R.not rfl) (Pb P rfl (mb rfl (bs hm (fun Q hm => ?_) fun Q hm => ?_)))
     ·exact psk 4 Q rfl (Pb Q rfl (nl ((ag) ⟨true, cg, rfl, Z, rfl, hm⟩)))
     ·exact wak 4 Q (fl (N.up Z) rfl (ca hm (fun _ => p119 (r22.ul ch)) fun ci cj hm ck => Lw.r rfl (R.not rfl) (Pb Q rfl (nl ((ag) ⟨(!ci), cj, rfl, (Z.j ck).w, rfl, hm⟩)))))
 ·refine Cw.exit ?_
  rw [b2] at hm
  refine ssr (Ni rfl (Cw.block ?_))
  obtain ⟨cl, cm, hm⟩ := zaS hm
  refine Cw.loop 67 115 [2, 6] (fun m l w => ∃ aa k y, CW.w y = w ∧ Le [] I y ∧ l = [vB aa, vI k] ∧ Vm.zcy x0 cl m aa k = some r) _ ⟨G, 0, I, rfl, Le.refl _ _, rfl, hm⟩ ?_
  rintro (_ | de) _ _ σ ⟨aa, k, y, rfl, a1, rfl, hm⟩
  ·cases hm
  unfold Vm.zcy at hm
  have A := V.n a1
  have ac := am.up a1
  refine ssr (mi rfl (fl ac rfl (Lw.ln x0.Heads (aj.ul A) rfl (Lw.lt rfl (nl (cn hm (fun hm => ?_) fun hm => ?_))))))
  ·refine sk (Cw.seq (Cw.block ?_))
   obtain ⟨co, cp, hm⟩ := zaS hm
   refine Cw.join 74 115 [115] (fun l w => ∃ a3 ae, CW.w ae = w ∧ Le [] y ae ∧ l = [vB a3] ∧ co a3 = some r) ?_ ?_
   ·rintro _ _ σ ⟨a3, ae, rfl, bq, rfl, hm⟩
    rw [cp] at hm
    have cq := A.n bq
    refine cn hm (fun hm => ?_) fun hm => ?_
    ·exact sr (Nb rfl (.ret (rt hm cq)))
    ·exact sk (rg (mi rfl (Lw.add rfl (Ni rfl ((agm) ⟨aa, w64 (k + 1), ae, rfl, (a1.j bq).w, rfl, hm⟩)))))
   ·refine Cw.draw [] [(0, 0), (1, 1), (2, 0), (3, 0), (4, 0), (5, 1), (6, 2), (7, 0), (8, 0), (9, 0), (10, 1), (11, 0), (12, 0), (13, 0), (14, 1), (15, 0), (16, 1), (17, 0), (18, 0), (19, 2), (20, 0), (21, 0), (22, 0), (23, 0), (24, 0), (25, 0), (26, 0), (27, 1), (28, 0), (29, 0), (30, 0), (31, 1), (32, 0), (33, 1), (34, 0), (35, 0), (36, 0), (37, 0), (38, 1), (39, 0), (40, 0), (41, 0)] mixed (by kernel_rfl) fun df B => ?_
    have br := A.n B
    have S := ac.up B
    refine Dfl S rfl rfl rfl (Di rfl ?_)
    obtain ⟨dg, a4, hm⟩ := ob hm
    have e := aj.ul br
    refine Mw.p rfl rfl (fun _ => R.ix (α := Head) e a4 rfl rfl rfl) (Df rfl (Mw.q rfl rfl (fun _ c => R.ld rfl rfl (zah (Head.at0 (e.at_ a4)).1 rfl (Head.at0 (e.at_ a4)).str c)) ?_))
    obtain ⟨dh, cs, hm⟩ := ob hm
    refine Mw.t rfl rfl (T.call rfl (p113   cs)) ?_
    rintro _ _ ⟨ct, rfl, C, rfl⟩
    have cu := br.n C
    refine m0 C fun cv => Mw.p rfl rfl (fun _ => R.not rfl) (Db rfl (bs hm (fun b hm => ?_) fun b hm => ?_))
    ·exact dps 12 b rfl (Mw.p rfl rfl (fun _ => R.pk b rfl (v := vB true) rfl) (Db rfl (dps 3 rfl rfl (dpu 14 rfl (dps 1 rfl rfl (Mw.p rfl rfl (fun _ => R.pk rfl rfl (v := vB true) rfl) (Mw.nil ((ag) ⟨true, ct, rfl, (B.j C).w, rfl, hm⟩))))))))
    ·refine Wp b rfl (fun _ => R.fa rfl) (Wq b rfl (fun _ c => R.ld (v := F) rfl rfl (S.clc rfl rfl c)) (Wp b rfl (fun _ => R.mv (v := vI k) rfl) ?_))
     obtain ⟨di, a5, hm⟩ := ob hm
     refine Wp b rfl (fun _ => R.ix (α := Head) e a5 rfl rfl rfl) (Wp b rfl (fun _ => R.fa rfl) (Wq b rfl (fun _ c => R.ld rfl rfl (zah (Head.at1 (e.at_ a5)).1 rfl (Head.at1 (e.at_ a5)).int c)) (Wp b rfl (fun _ => R.fa rfl) (Wq b rfl (fun _ c => R.ld (v := ah) rfl rfl (S.clc rfl rfl c)) (Wp b rfl (fun _ => zs4 (xs := x0.Commits) (ai.ul cu) rfl) (Wp b rfl (fun _ => R.sub rfl rfl) ?_))))))
     obtain ⟨cw, cx, hm⟩ := ob hm
     refine Wt b rfl (T.call rfl (p57   cx)) ?_
     rintro _ _ ⟨a6, rfl, af, rfl⟩
     refine mc cv af fun dj => Wp b rfl (fun _ => R.not rfl) (Mw.p rfl rfl (fun _ => R.pk b rfl (v := vB (!cw)) rfl) (Db rfl (bs hm (fun h hm => ?_) fun h hm => ?_)))
     ·exact dps 3 h rfl (dpu 14 rfl (dps 1 h rfl (Mw.p rfl rfl (fun _ => R.pk h rfl (v := vB true) rfl) (Mw.nil ((ag) ⟨true, a6, rfl, ((B.j C).j af).w, rfl, hm⟩)))))
     ·refine Wp h rfl (fun _ => R.mv (v := vI k) rfl) (Wp h rfl (fun _ => R.gt rfl rfl) (Wp h rfl (fun _ => R.mv (v := vB (decide ((0 : Int) < (k : Int)))) rfl) (bs hm (fun a hm => ?_) fun a hm => ?_)))
      ·refine Wp a rfl (fun _ => R.fa rfl) (Wq a rfl (fun _ c => R.ld (v := F) rfl rfl (S.clc rfl rfl c)) (Wp a rfl (fun _ => R.mv (v := vI k) rfl) ?_))
       obtain ⟨D, a7, hm⟩ := ob hm
       refine Wp a rfl (fun _ => R.ix (α := Head) e a7 rfl rfl rfl) (Wp a rfl (fun _ => R.fa rfl) (Wq a rfl (fun _ c => R.ld rfl rfl (zah (Head.at0 (e.at_ a7)).1 rfl (Head.at0 (e.at_ a7)).str c)) (Wp a rfl (fun _ => R.fa rfl) (Wq a rfl (fun _ c => R.ld (v := F) rfl rfl (S.clc rfl rfl c)) (Wp a rfl (fun _ => R.mv (v := vI k) rfl) (Wp a rfl (fun _ => R.sub rfl rfl) ?_))))))
       obtain ⟨E, a8, hm⟩ := ob hm
       exact Wp a rfl (fun _ => R.ix (α := Head) e a8 rfl rfl rfl) (Wp a rfl (fun _ => R.fa rfl) (Wq a rfl (fun _ c => R.ld rfl rfl (zah (Head.at0 (e.at_ a8)).1 rfl (Head.at0 (e.at_ a8)).str c)) (Wp a rfl (fun _ => R.sle rfl rfl) (Wp h rfl (fun _ => R.pk a rfl (v := vB (Op.bytesLess D.Name E.Name || D.Name == E.Name)) rfl) (Mw.p rfl rfl (fun _ => R.pk h rfl (v := vB (Op.bytesLess D.Name E.Name || D.Name == E.Name)) rfl) (Mw.nil ((ag) ⟨(Op.bytesLess D.Name E.Name || D.Name == E.Name), a6, rfl, ((B.j C).j af).w, rfl, hm⟩)))))))
      ·exact dps 14 a rfl (Wp h rfl (fun _ => R.pk a rfl (v := vB false) rfl) (Mw.p rfl rfl (fun _ => R.pk h rfl (v := vB false) rfl) (Mw.nil ((ag) ⟨false, a6, rfl, ((B.j C).j af).w, rfl, hm⟩))))
  ·refine Cw.exit ?_
   rw [cm] at hm
   obtain ⟨cy, cz, hm⟩ := zaS hm
   refine Cw.join 116 125 [2] (fun l w => ∃ a9 ba, CW.w ba = w ∧ Le [] y ba ∧ l = [vB a9] ∧ cy a9 = some r) ?_ ?_
   ·rintro _ _ σ ⟨a9, ba, rfl, c0, rfl, hm⟩
    rw [cz] at hm
    have c1 := A.n c0
    exact .ret (rt hm c1)
   ·refine rg (fl ac rfl (Lw.ln x0.Commits (ai.ul A) rfl (Lw.le rfl (mb rfl (bs hm (fun U hm => ?_) fun U hm => ?_)))))
    ·exact wak 4 U (fl ac rfl (Lw.ln x0.Heads (aj.ul A) rfl (Lw.le rfl (Pb U rfl (Nb rfl ((ag) ⟨decide (((x0.Heads.length : Int) : Int) ≤ (5 : Int)), y, rfl, Le.refl _ _, rfl, hm⟩))))))
    ·exact psk 4 U rfl (Pb U rfl (Nb rfl ((ag) ⟨false, y, rfl, Le.refl _ _, rfl, hm⟩)))
theorem p55 {x0 a b r} (d : Rd W K [a, b] x0) (hm : Vm.zfg x0 = some r) : Q1 55 [.agg [a, b].toArray] W [] fun W' v => v = vB r :=
 (c55 (d.view _) hm).ad (fk 0) fun _ _ e => e
theorem c56 {x0 k x x1 r} (C : Rd W0 [0] [k, x] x0) (hm : Vm.zeQ x0 x1 = some r) : Q0 56 [.agg [k, x].toArray, vS x1] W0 fun Wf v => v = vI r := by
 unfold Vm.zeQ at hm
 obtain ⟨J, K, y, L, D⟩ := Repo.split C
 simp only [List.cons.injEq, and_true, true_and] at y
 obtain ⟨rfl, rfl⟩ := y
 refine zaj.of Tryz.func56 rfl rfl rfl rfl (sr (bo 2 rfl fun M z E F => ?_))
 have G := E.o
 refine Ni rfl (ssr (Ni rfl (Cw.block ?_)))
 obtain ⟨H, I, hm⟩ := zaS hm
 refine Cw.loop 6 26 [4, 5] (fun m l w => ∃ b d e, CW.w e = w ∧ Le [] z e ∧ l = [vI b, vI d] ∧ Vm.zdt x0 x1 H m b d = some r) _ ⟨0, 0, z, rfl, Le.refl _ _, rfl, hm⟩ ?_
 rintro (_ | N) _ _ σ ⟨b, d, e, rfl, f, rfl, hm⟩
 ·cases hm
 unfold Vm.zdt at hm
 have h := G.n f
 have i := F.up f
 refine ssr ?_
 have a := D.ul h
 refine mi rfl (fl i rfl (Lw.ln x0.Heads a rfl (Lw.lt rfl (nl (cn hm (fun hm => ?_) fun hm => ?_)))))
 ·refine sk (Cw.seq (Cw.block (sr (fl i rfl (mi rfl ?_)))))
  obtain ⟨O, A, hm⟩ := ob hm
  refine Lw.r rfl (R.ix (α := Head) a A rfl rfl rfl) (Lw.fa rfl (Lw.r rfl (R.ld rfl rfl (Head.at0 (a.at_ A)).str) (ms rfl (Lw.seq rfl (nl (cn hm (fun hm => ?_) fun hm => ?_))))))
  ·refine sr (fl i rfl (mi rfl ?_))
   obtain ⟨P, B, hm⟩ := ob hm
   exact Lw.r rfl (R.ix (α := Head) a B rfl rfl rfl) (Lw.fa rfl (Lw.r rfl (R.ld rfl rfl (Head.at1 (a.at_ B)).int) (Ni rfl (.ret (rt hm h)))))
  ·exact sk (rg (mi rfl (Lw.add rfl (Ni rfl ((agm) ⟨b, w64 (d + 1), e, rfl, f, rfl, hm⟩)))))
 ·refine Cw.exit ?_
  rw [I] at hm
  exact sr (Ni rfl (.ret (rt hm h)))
theorem p56 {x0 a b x1 r} (d : Rd W K [a, b] x0) (hm : Vm.zeQ x0 x1 = some r) : Q1 56 [.agg [a, b].toArray, vS x1] W [] fun W' v => v = vI r :=
 (c56 (d.view _) hm).ad (fk 0) fun _ _ e => e
theorem c121 {x0 Q S x1 r} (h0 : Rd W0 [0] [Q, S] x0) (hm : Vm.zeC x0 x1 = some r) : Q0 121 [.agg [Q, S].toArray, vI x1] W0 fun Wf v => ∃ U, v = U ∧ OwS Wf LL [] [U] r := by
 unfold Vm.zeC at hm
 obtain ⟨b9, cb, V, k, cc⟩ := Repo.split h0
 simp only [List.cons.injEq, and_true, true_and] at V
 obtain ⟨rfl, rfl⟩ := V
 refine zaj.of Tryz.func121 rfl rfl rfl rfl (sr (bo 2 rfl fun g1 W1 l1 W => ?_))
 have X := l1.o
 refine Nv (.slice none 0 0) rfl (sr (fl W rfl (Lw.ln x0.Commits (k.ul X) rfl ?_)))
 obtain ⟨q4, e5, hm⟩ := ob hm
 refine Lw.t rfl (T.mk (α := Bool) 3 [] (n := (x0.Commits.length : Int)) rfl rfl e5) ?_
 rintro a _ ⟨W6, rfl, Y, Z⟩
 have a7 := X.n Y
 refine Nv a rfl (sr (mv a rfl (mi rfl ?_)))
 obtain ⟨u9, a1, hm⟩ := ob hm
 refine Lw.r rfl (R.ix (α := Bool) Z.rd a1 rfl rfl rfl) ?_
 obtain ⟨a3, a4, hm⟩ := ob hm
 refine Lw.u (T.stS (K' := []) Z (rdB _) a4 rfl rfl rfl) ?_
 rintro _ _ ⟨aa, rfl, ac, a5⟩
 have a6 := a7.t ac
 refine nl (ssr (mi rfl (Ni rfl (Cw.block ?_))))
 obtain ⟨a8, a9, hm⟩ := zaS hm
 refine Cw.loop 18 49 [6, 7] (fun m l w => ∃ x e ae f, CW.w f = w ∧ Le [3] aa f ∧ l = [vI x, ae] ∧ Ow f 3 [] [a] e ∧ Vm.zbL x0 a8 m x e = some r) _ ⟨x1, a3, undef, aa, rfl, Le.refl _ _, rfl, a5, hm⟩ ?_
 rintro (_ | ci) _ _ σ ⟨x, e, ae, f, rfl, I, rfl, af, hm⟩
 ·cases hm
 unfold Vm.zbL at hm
 have ah := a6.t I
 refine ssr (mi rfl (Lw.ge rfl (nl (cn hm (fun hm => ?_) fun hm => ?_))))
 ·refine sk (Cw.seq (Cw.block (sr (Ni rfl (Cw.block ?_)))))
  obtain ⟨ba, bb, hm⟩ := zaS hm
  refine Cw.loop 22 49 [7] (fun m l w => ∃ y C d, CW.w d = w ∧ Le [3] f d ∧ l = [vI y] ∧ Ow d 3 [] [a] C ∧ Vm.zcU x0 x ba m y C = some r) _ ⟨0, e, f, rfl, Le.refl _ _, rfl, af, hm⟩ ?_
  rintro (_ | cj) _ _ σ ⟨y, C, d, rfl, D, rfl, J, hm⟩
  ·cases hm
  unfold Vm.zcU at hm
  have K := ah.t D
  have ai := (((W.up Y).up ac).up I).up D
  refine Cw.seq ?_
  obtain ⟨bc, be, hm⟩ := zaS hm
  refine Cw.join 22 36 [36] (fun l w => ∃ L E, CW.w E = w ∧ Le [] d E ∧ l = [vB L] ∧ bc L = some r) ?_ ?_
  ·rintro _ _ σ ⟨L, E, rfl, z, rfl, hm⟩
   rw [be] at hm
   have aj := K.n z
   have M := J.up z
   refine cn hm (fun hm => ?_) fun hm => ?_
   ·refine sk (Cw.seq (Cw.block (rg (mv a rfl (fl (ai.up z) rfl (mi rfl ?_))))))
    obtain ⟨ck, ak, hm⟩ := ob hm
    refine Lw.r rfl (R.ix (α := Commit) (k.ul aj) ak rfl rfl rfl) (Lw.fa rfl ?_)
    obtain ⟨cl, c45, r46⟩ := (Commit.at0 ((k.ul aj).at_ ak)).cell rfl
    refine Lw.r rfl (R.ld rfl rfl c45) (mi rfl ?_)
    obtain ⟨cm, am, hm⟩ := ob hm
    refine Lw.r rfl (R.ix (α := Int) r46 am rfl rfl rfl) (Lw.r rfl (R.ld rfl rfl (r46.at_ am).int) ?_)
    obtain ⟨co, bg, hm⟩ := ob hm
    refine Lw.r rfl (R.ix (α := Bool) M.rd bg rfl rfl rfl) ?_
    obtain ⟨bh, bi, hm⟩ := ob hm
    refine Lw.u (T.stS (K' := []) M (rdB _) bi rfl rfl rfl) ?_
    rintro _ _ ⟨bj, rfl, bk, bl⟩
    exact nl (rg (mi rfl (Lw.add rfl (Ni rfl ((agm) ⟨w64 (y + 1), bh, bj, rfl, ((D.j z).j bk).w, rfl, bl, hm⟩)))))
   ·refine Cw.exit ?_
    rw [bb] at hm
    exact rg (mi rfl (Lw.sub rfl (Ni rfl ((agm) ⟨w64 (x - 1), C, vI y, E, rfl, ((I.j D).j z).w, rfl, M, hm⟩))))
  ·refine rg (mi rfl (fl ai rfl (mi rfl ?_)))
   obtain ⟨bm, an, hm⟩ := ob hm
   refine Lw.r rfl (R.ix (α := Commit) (k.ul K) an rfl rfl rfl) (Lw.fa rfl ?_)
   obtain ⟨cp, c60, r61⟩ := (Commit.at0 ((k.ul K).at_ an)).cell rfl
   refine Lw.r rfl (R.ld rfl rfl c60) (Lw.ln bm.Parents r61 rfl (Lw.lt rfl (mb rfl (bs hm (fun A hm => ?_) fun A hm => ?_))))
   ·refine wak 4 A (mv a rfl (mi rfl ?_))
    obtain ⟨bn, ao, hm⟩ := ob hm
    exact Lw.r rfl (R.ix (α := Bool) J.rd ao rfl rfl rfl) (Lw.r rfl (R.ld rfl rfl (J.rd.at_ ao).bool) (Pb A rfl (nl ((ag) ⟨bn, d, rfl, Le.refl _ _, rfl, hm⟩))))
   ·exact psk 4 A rfl (Pb A rfl (nl ((ag) ⟨false, d, rfl, Le.refl _ _, rfl, hm⟩)))
 ·refine Cw.exit ?_
  rw [a9] at hm
  refine sr (Lw.t rfl (T.lit0 (α := Int) 4 []) ?_)
  rintro ap _ ⟨aq, rfl, ar, bp⟩
  have bq := ah.n ar
  refine Nv ap rfl (ssr (Ni rfl (Cw.block ?_)))
  obtain ⟨br, bu, hm⟩ := zaS hm
  refine Cw.loop 51 64 [8, 9] (fun m l w => ∃ F h b i, CW.w i = w ∧ Le [4] aq i ∧ l = [b, vI h] ∧ Ow i 4 [] [b] F ∧ Vm.zbK e br m F h = some r) _ ⟨([] : List Int), 0, ap, aq, rfl, Le.refl _ _, rfl, bp, hm⟩ ?_
  rintro (_ | cq) _ _ σ ⟨F, h, b, i, rfl, N, rfl, O, hm⟩
  ·cases hm
  unfold Vm.zbK at hm
  have bv := bq.t N
  have P := (af.up ar).up N
  refine ssr (mi rfl (mv a rfl (Lw.ln e P.rd rfl (Lw.lt rfl (nl (cn hm (fun hm => ?_) fun hm => ?_))))))
  ·refine sk ?_
   obtain ⟨bw, bz, hm⟩ := zaS hm
   refine Cw.join 57 64 [8] (fun l w => ∃ G H B, CW.w B = w ∧ Le [4] i B ∧ l = [H] ∧ Ow B 4 [] [H] G ∧ bw G = some r) ?_ ?_
   ·rintro _ _ σ ⟨G, H, B, rfl, b0, rfl, b2, hm⟩
    rw [bz] at hm
    exact rg (mi rfl (Lw.add rfl (Ni rfl ((agm) ⟨G, w64 (h + 1), H, B, rfl, (N.j b0).w, rfl, b2, hm⟩))))
   ·refine Cw.block (sr (mv a rfl (mi rfl ?_)))
    obtain ⟨ct, au, hm⟩ := ob hm
    refine Lw.r rfl (R.ix (α := Bool) P.rd au rfl rfl rfl) (Lw.r rfl (R.ld rfl rfl (P.rd.at_ au).bool) (nl (cn hm (fun hm => ?_) fun hm => ?_)))
    ·refine rg (mv b rfl (mi rfl (Lw.t rfl (T.bs 5 [vI h] (cs := [vI h]) rfl rfl (bsv rfl)) ?_)))
     rintro _ _ ⟨cu, cv, rfl, rfl, av, b3⟩
     obtain ⟨b4, b5, hm⟩ := ob hm
     refine Lw.t rfl (T.app1S (α := Int) (K' := []) (O.up av) b3 (rdI _) rfl rfl b5) ?_
     rintro aw _ ⟨b6, rfl, b7, b8⟩
     exact Nv aw rfl ((ag) ⟨b4, aw, b6, rfl, (av.j b7).w, rfl, b8, hm⟩)
    ·exact sk ((ag) ⟨F, b, i, rfl, Le.refl _ _, rfl, O, hm⟩)
  ·refine Cw.exit ?_
   rw [bu] at hm
   refine sr (mv b rfl (Nv b rfl ?_))
   cases hm
   exact Cw.ret (zhB rfl (Res.mk bv ⟨b, rfl, O.s.sub rfl rfl⟩))
theorem p121 {x0 b d x1 k0 r} (f : Rd W K [b, d] x0) (hm : Vm.zeC x0 x1 = some r) : Q1 121 [.agg [b, d].toArray, vI x1] W [] fun W' v => ∃ a, v = a ∧ Ow W' k0 [] [a] r :=
 (c121 (f.view _) hm).ad (fk k0) fun _ _ ⟨a, e, h⟩ => ⟨a, e, h.back (zfR _)⟩
theorem c122 {x0 a x1 r} (x : Rd W0 [0] [a] x0) (hm : Vm.zfn x0 x1 = some r) : Q0 122 [a, vI x1] W0 fun Wf v => v = vB r := by
 unfold Vm.zfn at hm
 refine zaj.of Tryz.func122 rfl rfl rfl rfl (sr (Nb rfl (ssr (Ni rfl (Cw.block ?_)))))
 obtain ⟨y, z, hm⟩ := zaS hm
 refine Cw.loop 6 17 [4, 5] (fun m l w => ∃ b d e, CW.w e = w ∧ Le [] W0 e ∧ l = [vB b, vI d] ∧ Vm.zcV x0 x1 y m b d = some r) _ ⟨false, 0, W0, rfl, Le.refl _ _, rfl, hm⟩ ?_
 rintro (_ | A) _ _ σ ⟨b, d, e, rfl, i, rfl, hm⟩
 ·cases hm
 unfold Vm.zcV at hm
 have f := i.o
 refine ssr ?_
 have h := x.ul f
 refine mi rfl (mv a rfl (Lw.ln x0 h rfl (Lw.lt rfl (nl (cn hm (fun hm => ?_) fun hm => ?_)))))
 ·refine sk (Cw.seq (Cw.block (sr (mv a rfl (mi rfl ?_)))))
  obtain ⟨B, k, hm⟩ := ob hm
  refine Lw.r rfl (R.ix (α := Int) h k rfl rfl rfl) (Lw.r rfl (R.ld rfl rfl (h.at_ k).int) (mi rfl (Lw.eq rfl (nl (cn hm (fun hm => ?_) fun hm => ?_)))))
  ·exact sr (Nb rfl (.ret (rt hm f)))
  ·exact sk (rg (mi rfl (Lw.add rfl (Ni rfl ((agm) ⟨b, w64 (d + 1), e, rfl, i, rfl, hm⟩)))))
 ·refine Cw.exit ?_
  rw [z] at hm
  exact sr (Nb rfl (.ret (rt hm f)))
theorem p122 {x0 a x1 r} (b : Rd W K [a] x0) (hm : Vm.zfn x0 x1 = some r) : Q1 122 [a, vI x1] W [] fun W' v => v = vB r :=
 (c122 (b.view _) hm).ad (fk 0) fun _ _ e => e
theorem c148 {x0 a x1 r} (b : Rd W0 [0] [a] x0) (hm : Vm.zdu x0 x1 = some r) : Q0 148 [a, vS x1] W0 fun Wf v => ∃ F, v = F ∧ Rd Wf [0] [F] r := by
 unfold Vm.zdu at hm
 refine zaj.of Tryz.func148 rfl rfl rfl rfl (sr (Nv (.slice none 0 0) rfl (sr (Ni rfl (Cw.seq (Cw.block ?_))))))
 obtain ⟨Q, S, hm⟩ := zaS hm
 refine Cw.loop 7 20 [5] (fun m l w => ∃ i e, CW.w e = w ∧ Le [] W0 e ∧ l = [vI i] ∧ Vm.zcW x0 x1 Q m i = some r) _ ⟨0, W0, rfl, Le.refl _ _, rfl, hm⟩ ?_
 rintro (_ | m4) _ _ σ ⟨i, e, rfl, G, rfl, hm⟩
 ·cases hm
 unfold Vm.zcW at hm
 have k := G.o
 refine Cw.seq ?_
 obtain ⟨U, V, hm⟩ := zaS hm
 refine Cw.join 7 18 [18] (fun l w => ∃ y d, CW.w d = w ∧ Le [] e d ∧ l = [vB y] ∧ U y = some r) ?_ ?_
 ·rintro _ _ σ ⟨y, d, rfl, H, rfl, hm⟩
  rw [V] at hm
  have x := k.n H
  refine cn hm (fun hm => ?_) fun hm => ?_
  ·exact sk (Cw.block (rg (mi rfl (Lw.add rfl (Ni rfl ((agm) ⟨w64 (i + 1), d, rfl, (G.j H).w, rfl, hm⟩))))))
  ·refine Cw.exit ?_
   rw [S] at hm
   refine Cw.seq ?_
   obtain ⟨W, X, hm⟩ := zaS hm
   refine Cw.join 21 32 [32] (fun l w => ∃ z A, CW.w A = w ∧ Le [] d A ∧ l = [vB z] ∧ W z = some r) ?_ ?_
   ·rintro _ _ σ ⟨z, A, rfl, Y, rfl, hm⟩
    rw [X] at hm
    have B := x.n Y
    refine cn hm (fun hm => ?_) fun hm => ?_
    ·refine sr (mv a rfl (Nv a rfl ?_))
     cases hm
     exact Cw.ret (zhB rfl (Res.mk B ⟨a, rfl, (b.ul B)⟩))
    ·refine sk (sr (Lw.t rfl (T.lit0 (α := Str) 2 []) ?_))
     rintro a4 _ ⟨a6, rfl, Z, aa⟩
     have C := B.n Z
     refine mv a rfl (mi rfl ?_)
     obtain ⟨a7, I, hm⟩ := ob hm
     have r23 := (b.ul C).cutV I
     refine Lw.r rfl (R.sl (b.ul C) I rfl (.inl ⟨rfl, rfl⟩) (.inr rfl)) ?_
     obtain ⟨a8, ac, hm⟩ := ob hm
     refine Lw.t rfl (T.appP (α := Str) aa r23 rfl rfl ac) ?_
     rintro J _ ⟨ba, rfl, ae, af⟩
     have ah := C.t ae
     refine Nv J rfl (sr (mv J rfl (ms rfl (Lw.t rfl (T.bs 3 [vS x1] (cs := [vS x1]) rfl rfl (bsv rfl)) ?_))))
     rintro _ _ ⟨bb, bc, rfl, rfl, K, ai⟩
     have aj := ah.n K
     obtain ⟨be, ak, hm⟩ := ob hm
     refine Lw.t rfl (T.app1S (α := Str) (K' := []) (af.up K) ai (rdS _) rfl rfl ak) ?_
     rintro L _ ⟨bg, rfl, am, an⟩
     have D := aj.t am
     refine Nv L rfl (sr (mv L rfl (mv a rfl (mi rfl ?_))))
     obtain ⟨bh, N, hm⟩ := ob hm
     have r40 := (b.ul D).cutV N
     refine Lw.r rfl (R.sl (b.ul D) N rfl (.inr rfl) (.inl ⟨rfl, rfl⟩)) ?_
     obtain ⟨ao, ap, hm⟩ := ob hm
     refine Lw.t rfl (T.appP (α := Str) an r40 rfl rfl ap) ?_
     rintro E _ ⟨bi, rfl, aq, ar⟩
     have au := D.t aq
     refine Nv E rfl ?_
     obtain ⟨av, aw, ax, ay⟩ := zp4 _ 2
     have az : Rd (α := List Str) av [0] [E] ao := by rw [ay]; exact (ar.rd.dye 2).sub (M := [0]) rfl
     have a0 := au.t ax
     cases hm
     rw [← aw]
     exact Cw.ret (zhB rfl (Res.mk a0 ⟨E, rfl, az⟩))
   ·refine rg (mi rfl (mv a rfl (Lw.ln x0 (b.ul x) rfl (Lw.lt rfl (mb rfl (bs hm (fun f hm => ?_) fun f hm => ?_))))))
    ·refine wak 6 f (mv a rfl (mi rfl ?_))
     obtain ⟨a1, O, hm⟩ := ob hm
     exact Lw.r rfl (R.ix (α := Str) (b.ul x) O rfl rfl rfl) (Lw.r rfl (R.ld rfl rfl ((b.ul x).at_ O).str) (ms rfl (Lw.seq rfl (Pb f rfl (nl ((ag) ⟨(a1 == x1), d, rfl, Le.refl _ _, rfl, hm⟩))))))
    ·exact psk 6 f rfl (Pb f rfl (nl ((ag) ⟨false, d, rfl, Le.refl _ _, rfl, hm⟩)))
 ·refine rg (mi rfl (mv a rfl (Lw.ln x0 (b.ul k) rfl (Lw.lt rfl (mb rfl (bs hm (fun h hm => ?_) fun h hm => ?_))))))
  ·refine wak 6 h (mv a rfl (mi rfl ?_))
   obtain ⟨a2, P, hm⟩ := ob hm
   exact Lw.r rfl (R.ix (α := Str) (b.ul k) P rfl rfl rfl) (Lw.r rfl (R.ld rfl rfl ((b.ul k).at_ P).str) (ms rfl (Lw.r rfl (R.slt rfl rfl) (Pb h rfl (nl ((ag) ⟨Op.bytesLess a2 x1, e, rfl, Le.refl _ _, rfl, hm⟩))))))
  ·exact psk 6 h rfl (Pb h rfl (nl ((ag) ⟨false, e, rfl, Le.refl _ _, rfl, hm⟩)))
theorem p148 {x0 b x1 r} (d : Rd W K [b] x0) (hm : Vm.zdu x0 x1 = some r) : Q1 148 [b, vS x1] W [] fun W' v => ∃ a, v = a ∧ Rd W' (0 :: K) [a] r :=
 (c148 (d.view _) hm).ad (fk 0) fun _ _ ⟨a, e, f⟩ => ⟨a, e, f.back rfl⟩
theorem c196 {x0 a x1 r} (C : Rd W0 [0] [a] x0) (hm : Vm.zd4 x0 x1 = some r) : Q0 196 [a, vS x1] W0 fun Wf v => ∃ x, v = .tuple [x, vB r.2].toArray ∧ Rd Wf [0] [x] r.1 := by
 unfold Vm.zd4 at hm
 refine zaj.of Tryz.func196 rfl rfl rfl rfl (sr (Gv (.slice none 0 0) rfl (Nb rfl (ssr (Ni rfl (Cw.block ?_))))))
 obtain ⟨D, E, hm⟩ := zaS hm
 refine Cw.loop 7 24 [4, 5, 6] (fun m l w => ∃ e f h i b, CW.w b = w ∧ Le [] W0 b ∧ l = [i, vB f, vI h] ∧ Ow b 2 [] [i] e ∧ Vm.zcX x0 x1 D m e f h = some r) _ ⟨([] : List Str), false, 0, .slice none 0 0, W0, rfl, Le.refl _ _, rfl, owN 2 [], hm⟩ ?_
 rintro (_ | G) _ _ σ ⟨e, f, h, i, b, rfl, y, rfl, F, hm⟩
 ·cases hm
 unfold Vm.zcX at hm
 have k := y.o
 refine ssr ?_
 have d := C.ul k
 refine mi rfl (mv a rfl (Lw.ln x0 d rfl (Lw.lt rfl (nl (cn hm (fun hm => ?_) fun hm => ?_)))))
 ·refine sk (Cw.seq (Cw.block (sr (mv a rfl (mi rfl ?_)))))
  obtain ⟨H, z, hm⟩ := ob hm
  refine Lw.r rfl (R.ix (α := File) d z rfl rfl rfl) (Lw.fa rfl (Lw.r rfl (R.ld rfl rfl (File.at0 (d.at_ z)).str) (ms rfl (Lw.seq rfl (nl (cn hm (fun hm => ?_) fun hm => ?_))))))
  ·refine sr (mv a rfl (mi rfl ?_))
   obtain ⟨I, A, hm⟩ := ob hm
   refine Lw.r rfl (R.ix (α := File) d A rfl rfl rfl) (Lw.fa rfl ?_)
   obtain ⟨B, c18, r19⟩ := (File.at1 (d.at_ A)).cell rfl
   refine Lw.r rfl (R.ld rfl rfl c18) (Gv B rfl (Nb rfl ?_))
   cases hm
   exact Cw.ret (zoI rfl rfl (Res.mk k ⟨B, rfl, r19⟩))
  ·exact sk (rg (mi rfl (Lw.add rfl (Ni rfl ((agm) ⟨e, f, w64 (h + 1), i, b, rfl, y, rfl, F, hm⟩)))))
 ·refine Cw.exit ?_
  rw [E] at hm
  refine sr (Gv (.slice none 0 0) rfl (Nb rfl ?_))
  cases hm
  exact Cw.ret (zoI rfl rfl (Res.mk k ⟨.slice none 0 0, rfl, (rdN (K := [0]))⟩))
theorem p196 {x0 b x1 r} (d : Rd W K [b] x0) (hm : Vm.zd4 x0 x1 = some r) : Q1 196 [b, vS x1] W [] fun W' v => ∃ a, v = .tuple [a, vB r.2].toArray ∧ Rd W' (0 :: K) [a] r.1 :=
 (c196 (d.view _) hm).ad (fk 0) fun _ _ ⟨a, e, f⟩ => ⟨a, e, f.back rfl⟩
theorem c203 {x0 b x1 e r} (d : Rd W0 [0] [b] x0) (f : Rd W0 [0] [e] x1) (hm : Vm.zdi x0 x1 = some r) : Q0 203 [b, e] W0 fun Wf v => v = vB r := by
 unfold Vm.zdi at hm
 refine zaj.of Tryz.func203 rfl rfl rfl rfl (sr (Nb rfl (ssr (mv b rfl (Lw.ln x0 d rfl (mv e rfl (Lw.ln x1 f rfl (Lw.ne rfl (nl (cn hm (fun hm => ?_) fun hm => ?_))))))))))
 ·exact sr (Nb rfl (.ret (rt hm (Le.refl _ _))))
 ·refine sk (ssr (Ni rfl (Cw.block ?_)))
  obtain ⟨B, C, hm⟩ := zaS hm
  refine Cw.loop 11 25 [4, 5] (fun m l w => ∃ h i k, CW.w k = w ∧ Le [] W0 k ∧ l = [vB h, vI i] ∧ Vm.zcj x0 x1 B m h i = some r) _ ⟨false, 0, W0, rfl, Le.refl _ _, rfl, hm⟩ ?_
  rintro (_ | E) _ _ σ ⟨h, i, k, rfl, A, rfl, hm⟩
  ·cases hm
  unfold Vm.zcj at hm
  have x := A.o
  refine ssr (mi rfl (mv b rfl (Lw.ln x0 (d.ul x) rfl (Lw.lt rfl (nl (cn hm (fun hm => ?_) fun hm => ?_))))))
  ·refine sk (Cw.seq (Cw.block (Cw.seq (Cw.draw [] [(0, 0), (1, 0), (2, 0), (3, 1), (4, 0), (5, 0), (6, 0), (7, 1), (8, 0)] mixed (by kernel_rfl) fun D l10 => ?_))))
   have a := x.n l10
   refine Dv b rfl (Di rfl ?_)
   obtain ⟨F, y, hm⟩ := ob hm
   refine Mw.p rfl rfl (fun _ => R.ix (α := Str) (d.ul a) y rfl rfl rfl) (Mw.q rfl rfl (fun _ c => R.ld rfl rfl (zah ((d.ul a).at_ y).1 rfl ((d.ul a).at_ y).str c)) (Dv e rfl (Di rfl ?_)))
   obtain ⟨G, z, hm⟩ := ob hm
   refine Mw.p rfl rfl (fun _ => R.ix (α := Str) (f.ul a) z rfl rfl rfl) (Mw.q rfl rfl (fun _ c => R.ld rfl rfl (zah ((f.ul a).at_ z).1 rfl ((f.ul a).at_ z).str c)) (Mw.p rfl rfl (fun _ => R.sne rfl rfl) (Mw.nil (cn hm (fun hm => ?_) fun hm => ?_))))
   ·exact sr (Nb rfl (.ret (rt hm a)))
   ·exact sk (rg (mi rfl (Lw.add rfl (Ni rfl ((agm) ⟨h, w64 (i + 1), D, rfl, (A.j l10).w, rfl, hm⟩)))))
  ·refine Cw.exit ?_
   rw [C] at hm
   exact sr (Nb rfl (.ret (rt hm x)))
theorem p203 {x0 a x1 b r} (d : Rd W K [a] x0) (f : Rd W K [b] x1) (hm : Vm.zdi x0 x1 = some r) : Q1 203 [a, b] W [] fun W' v => v = vB r :=
 (c203 (d.view _) (f.view _) hm).ad (fk 0) fun _ _ e => e
theorem c252 {x0 z x1 A r} (B : Rd W0 [0] [z] x0) (C : Rd W0 [0] [A] x1) (hm : Vm.zeZ x0 x1 = some r) : Q0 252 [z, A] W0 fun Wf v => ∃ u0, v = u0 ∧ OwS Wf LL [] [u0] r := by
 unfold Vm.zeZ at hm
 refine zaj.of Tryz.func252 rfl rfl rfl rfl (sr (Nv (.slice none 0 0) rfl (sr (Lw.t rfl (T.lit0 (α := List Int) 2 []) ?_))))
 rintro v1 _ ⟨W1, rfl, l1, o1⟩
 have a2 := l1.o
 refine Nv v1 rfl (ssr (Ni rfl (Cw.block ?_)))
 obtain ⟨K8, bh, hm⟩ := zaS hm
 refine Cw.loop 10 22 [5, 6] (fun m l w => ∃ G H a h, CW.w h = w ∧ Le [2, 3] W1 h ∧ l = [a, vI H] ∧ Ow h 2 [] [a] G ∧ Vm.zbP x0 x1 K8 m G H = some r) _ ⟨([] : List (List Int)), 0, v1, W1, rfl, Le.refl _ _, rfl, o1, hm⟩ ?_
 rintro (_ | m9) _ _ σ ⟨G, H, a, h, rfl, l7, rfl, o5, hm⟩
 ·cases hm
 unfold Vm.zbP at hm
 have I := a2.t l7
 refine ssr (mi rfl (mv z rfl (Lw.ln x0 (B.ul I) rfl (Lw.le rfl (nl (cn hm (fun hm => ?_) fun hm => ?_))))))
 ·refine sk (Cw.seq (Cw.block (rg (mv a rfl (mv A rfl (Lw.ln x1 (C.ul I) rfl (Lw.add rfl ?_)))))))
  obtain ⟨c5, bi, hm⟩ := ob hm
  refine Lw.t rfl (T.mk (α := Int) 3 [] (n := w64 ((x1.length : Int) + 1)) rfl rfl bi) ?_
  rintro av _ ⟨c6, rfl, aw, Q⟩
  refine Lw.t rfl (T.bs 4 [av] (cs := [av]) (bsc Q.oc) rfl (bsv Q.oc)) ?_
  rintro _ _ ⟨c7, c8, rfl, rfl, S, bj⟩
  obtain ⟨bk, bl, hm⟩ := ob hm
  refine Lw.t rfl (T.app1 (α := List Int) (J := [3]) (K' := []) ((o5.up aw).up S) bj (Q.up S).s rfl rfl bl) ?_
  rintro ax _ ⟨bm, rfl, bn, bp⟩
  exact Nv ax rfl (rg (mi rfl (Lw.add rfl (Ni rfl ((agm) ⟨bk, w64 (H + 1), ax, bm, rfl, (((l7.j aw).j S).j bn).w, rfl, bp, hm⟩)))))
 ·refine Cw.exit ?_
  rw [bh] at hm
  refine ssr (mv z rfl (Lw.ln x0 (B.ul I) rfl (Lw.sub rfl (Ni rfl (Cw.block ?_)))))
  obtain ⟨bq, br, hm⟩ := zaS hm
  refine Cw.loop 26 108 [7, 8] (fun m l w => ∃ D K ay i, CW.w i = w ∧ Le [2, 5, 6, 7] h i ∧ l = [vI D, ay] ∧ Ow i 2 [] [a] K ∧ Vm.zbh x0 x1 bq m D K = some r) _ ⟨w64 ((x0.length : Int) - 1), G, undef, h, rfl, Le.refl _ _, rfl, o5, hm⟩ ?_
  rintro (_ | c9) _ _ σ ⟨D, K, ay, i, rfl, az, rfl, a0, hm⟩
  ·cases hm
  unfold Vm.zbh at hm
  have U := I.t az
  refine ssr (mi rfl (Lw.ge rfl (nl (cn hm (fun hm => ?_) fun hm => ?_))))
  ·refine sk (Cw.seq (Cw.block (sr (mv A rfl (Lw.ln x1 (C.ul U) rfl (Lw.sub rfl (Ni rfl (Cw.block ?_))))))))
   obtain ⟨bu, bv, hm⟩ := zaS hm
   refine Cw.loop 33 108 [8] (fun m l w => ∃ E L k, CW.w k = w ∧ Le [2, 5, 6, 7] i k ∧ l = [vI E] ∧ Ow k 2 [] [a] L ∧ Vm.zbO x0 x1 D bu m E L = some r) _ ⟨w64 ((x1.length : Int) - 1), K, i, rfl, Le.refl _ _, rfl, a0, hm⟩ ?_
   rintro (_ | da) _ _ σ ⟨E, L, k, rfl, V, rfl, W, hm⟩
   ·cases hm
   unfold Vm.zbO at hm
   have bw := U.t V
   refine ssr (mi rfl (Lw.ge rfl (nl (cn hm (fun hm => ?_) fun hm => ?_))))
   ·refine sk ?_
    obtain ⟨bz, b0, hm⟩ := zaS hm
    refine Cw.join 37 108 [] (fun l w => ∃ M F, CW.w F = w ∧ Le [2, 5, 6, 7] k F ∧ l = [] ∧ Ow F 2 [] [a] M ∧ bz M = some r) ?_ ?_
    ·rintro _ _ σ ⟨M, F, rfl, b1, rfl, b2, hm⟩
     rw [b0] at hm
     exact rg (mi rfl (Lw.sub rfl (Ni rfl ((agm) ⟨w64 (E - 1), M, F, rfl, (V.j b1).w, rfl, b2, hm⟩))))
    ·refine Cw.block (Cw.block (Cw.seq (Cw.draw [] [(0, 0), (1, 0), (2, 0), (3, 1), (4, 0), (5, 0), (6, 0), (7, 1), (8, 0), (9, 0)] mixed (by kernel_rfl) fun db x => ?_)))
     have y := bw.n x
     refine Dv z rfl (Di rfl ?_)
     obtain ⟨dc, X, hm⟩ := ob hm
     refine Mw.p rfl rfl (fun _ => R.ix (α := Str) (B.ul y) X rfl rfl rfl) (Mw.q rfl rfl (fun _ c => R.ld rfl rfl (zah ((B.ul y).at_ X).1 rfl ((B.ul y).at_ X).str c)) (Dv A rfl (Di rfl ?_)))
     obtain ⟨dd, Y, hm⟩ := ob hm
     refine Mw.p rfl rfl (fun _ => R.ix (α := Str) (C.ul y) Y rfl rfl rfl) (Mw.q rfl rfl (fun _ c => R.ld rfl rfl (zah ((C.ul y).at_ Y).1 rfl ((C.ul y).at_ Y).str c)) (Mw.p rfl rfl (fun _ => R.seq rfl rfl) (Hb rfl (Mw.nil (cn hm (fun hm => ?_) fun hm => ?_)))))
     ·refine Cw.draw [] [(0, 0), (1, 0), (2, 0), (3, 1), (4, 0), (5, 0), (6, 0), (7, 0), (8, 0), (9, 1), (10, 0), (11, 0), (12, 0), (13, 1), (14, 0), (15, 0), (16, 3)] mixed (by kernel_rfl) fun de a1 => ?_
      have d := (W.up x).up a1
      refine Dv a rfl (Di rfl ?_)
      obtain ⟨u64, N, hm⟩ := ob hm
      refine Mw.p rfl rfl (fun _ => R.ix (α := List Int) d.rd N rfl rfl rfl) ?_
      obtain ⟨df, c67, r68⟩ := (d.rd.at_ N).cell rfl
      refine Mw.q rfl rfl (fun _ c => R.ld rfl rfl (zah (d.rd.at_ N).1 rfl c67 c)) (Di rfl (Dv a rfl (Di rfl (Mw.p rfl rfl (fun _ => R.add rfl rfl) ?_))))
      obtain ⟨dg, Z, hm⟩ := ob hm
      refine Mw.p rfl rfl (fun _ => R.ix (α := List Int) d.rd Z rfl rfl rfl) ?_
      obtain ⟨dh, c72, r73⟩ := (d.rd.at_ Z).cell rfl
      refine Mw.q rfl rfl (fun _ c => R.ld rfl rfl (zah (d.rd.at_ Z).1 rfl c72 c)) (Di rfl (Mw.p rfl rfl (fun _ => R.add rfl rfl) ?_))
      obtain ⟨di, aa, hm⟩ := ob hm
      refine Mw.p rfl rfl (fun _ => R.ix (α := Int) r73 aa rfl rfl rfl) (Mw.q rfl rfl (fun _ c => R.ld rfl rfl (zah (r73.at_ aa).1 rfl (r73.at_ aa).int c)) (Mw.p rfl rfl (fun _ => R.add rfl rfl) ?_))
      obtain ⟨dj, b3, hm⟩ := ob hm
      refine Mw.p rfl rfl (fun _ => R.ix (α := Int) r68 b3 rfl rfl rfl) ?_
      obtain ⟨dk, b4, b5, b6, gb78⟩ := Ow.lend (α := List Int) (β := List Int) (j := 5) (jf := 0) d N (by rw [ziu]; exact c67) rfl
      rw [← b4]
      obtain ⟨dl, b7, hm⟩ := ob hm
      refine Mw.lu rfl (T.stS (K' := []) b6 (rdI _) b7 rfl rfl rfl) ?_
      rintro _ _ ⟨dm, rfl, a3, b8⟩
      obtain ⟨b9, cb, cc, cd, eq85, ce⟩ := gb78 _ _ a3 b8
      obtain ⟨a4, eqm85, hm⟩ := ob hm
      obtain rfl : a4 = cd := Option.some.inj (eqm85.symm.trans eq85)
      rw [← cb]
      exact Mw.nil ((ag) ⟨a4, b9, rfl, ((((x.j a1).j b5).j a3).j cc).w, rfl, ce, hm⟩)
     ·refine Cw.seq (Cw.draw [] [(0, 0), (1, 0), (2, 0), (3, 0), (4, 1), (5, 0), (6, 0), (7, 1), (8, 0), (9, 0), (10, 0), (11, 1), (12, 0), (13, 0), (14, 0), (15, 1), (16, 0), (17, 0)] mixed (by kernel_rfl) fun dn ac => ?_)
      have b := (W.up x).up ac
      refine Dv a rfl (Di rfl (Mw.p rfl rfl (fun _ => R.add rfl rfl) ?_))
      obtain ⟨dp, ae, hm⟩ := ob hm
      refine Mw.p rfl rfl (fun _ => R.ix (α := List Int) b.rd ae rfl rfl rfl) ?_
      obtain ⟨dq, c93, r94⟩ := (b.rd.at_ ae).cell rfl
      refine Mw.q rfl rfl (fun _ c => R.ld rfl rfl (zah (b.rd.at_ ae).1 rfl c93 c)) (Di rfl ?_)
      obtain ⟨dr, af, hm⟩ := ob hm
      refine Mw.p rfl rfl (fun _ => R.ix (α := Int) r94 af rfl rfl rfl) (Mw.q rfl rfl (fun _ c => R.ld rfl rfl (zah (r94.at_ af).1 rfl (r94.at_ af).int c)) (Dv a rfl (Di rfl ?_)))
      obtain ⟨ds, ah, hm⟩ := ob hm
      refine Mw.p rfl rfl (fun _ => R.ix (α := List Int) b.rd ah rfl rfl rfl) ?_
      obtain ⟨dt, c100, r101⟩ := (b.rd.at_ ah).cell rfl
      refine Mw.q rfl rfl (fun _ c => R.ld rfl rfl (zah (b.rd.at_ ah).1 rfl c100 c)) (Di rfl (Mw.p rfl rfl (fun _ => R.add rfl rfl) ?_))
      obtain ⟨du, ai, hm⟩ := ob hm
      refine Mw.p rfl rfl (fun _ => R.ix (α := Int) r101 ai rfl rfl rfl) (Mw.q rfl rfl (fun _ c => R.ld rfl rfl (zah (r101.at_ ai).1 rfl (r101.at_ ai).int c)) (Mw.p rfl rfl (fun _ => R.ge rfl rfl) (Hb rfl (Mw.nil (cn hm (fun hm => ?_) fun hm => ?_)))))
      ·refine Cw.draw [] [(0, 0), (1, 0), (2, 0), (3, 1), (4, 0), (5, 0), (6, 0), (7, 0), (8, 0), (9, 1), (10, 0), (11, 0), (12, 1), (13, 0), (14, 3)] mixed (by kernel_rfl) fun dv a5 => ?_
       have e := b.up a5
       refine Dv a rfl (Di rfl ?_)
       obtain ⟨dw, O, hm⟩ := ob hm
       refine Mw.p rfl rfl (fun _ => R.ix (α := List Int) e.rd O rfl rfl rfl) ?_
       obtain ⟨dx, c111, r112⟩ := (e.rd.at_ O).cell rfl
       refine Mw.q rfl rfl (fun _ c => R.ld rfl rfl (zah (e.rd.at_ O).1 rfl c111 c)) (Di rfl (Dv a rfl (Di rfl (Mw.p rfl rfl (fun _ => R.add rfl rfl) ?_))))
       obtain ⟨dy, aj, hm⟩ := ob hm
       refine Mw.p rfl rfl (fun _ => R.ix (α := List Int) e.rd aj rfl rfl rfl) ?_
       obtain ⟨dz, c116, r117⟩ := (e.rd.at_ aj).cell rfl
       refine Mw.q rfl rfl (fun _ c => R.ld rfl rfl (zah (e.rd.at_ aj).1 rfl c116 c)) (Di rfl ?_)
       obtain ⟨d0, ak, hm⟩ := ob hm
       refine Mw.p rfl rfl (fun _ => R.ix (α := Int) r117 ak rfl rfl rfl) (Mw.q rfl rfl (fun _ c => R.ld rfl rfl (zah (r117.at_ ak).1 rfl (r117.at_ ak).int c)) ?_)
       obtain ⟨d1, cf, hm⟩ := ob hm
       refine Mw.p rfl rfl (fun _ => R.ix (α := Int) r112 cf rfl rfl rfl) ?_
       obtain ⟨d2, cg, ch, ci, gb122⟩ := Ow.lend (α := List Int) (β := List Int) (j := 6) (jf := 0) e O (by rw [ziu]; exact c111) rfl
       rw [← cg]
       obtain ⟨d3, cj, hm⟩ := ob hm
       refine Mw.lu rfl (T.stS (K' := []) ci (rdI _) cj rfl rfl rfl) ?_
       rintro _ _ ⟨d4, rfl, a6, ck⟩
       obtain ⟨cl, cm, co, cp, eq129, cq⟩ := gb122 _ _ a6 ck
       obtain ⟨a7, eqm129, hm⟩ := ob hm
       obtain rfl : a7 = cp := Option.some.inj (eqm129.symm.trans eq129)
       rw [← cm]
       exact Mw.nil ((ag) ⟨a7, cl, rfl, (((((x.j ac).j a5).j ch).j a6).j co).w, rfl, cq, hm⟩)
      ·refine Cw.draw [] [(0, 0), (1, 0), (2, 0), (3, 1), (4, 0), (5, 0), (6, 0), (7, 0), (8, 1), (9, 0), (10, 0), (11, 0), (12, 1), (13, 0), (14, 3)] mixed (by kernel_rfl) fun d5 a8 => ?_
       have f := b.up a8
       refine Dv a rfl (Di rfl ?_)
       obtain ⟨d6, P, hm⟩ := ob hm
       refine Mw.p rfl rfl (fun _ => R.ix (α := List Int) f.rd P rfl rfl rfl) ?_
       obtain ⟨d7, c137, r138⟩ := (f.rd.at_ P).cell rfl
       refine Mw.q rfl rfl (fun _ c => R.ld rfl rfl (zah (f.rd.at_ P).1 rfl c137 c)) (Di rfl (Dv a rfl (Di rfl ?_)))
       obtain ⟨d8, am, hm⟩ := ob hm
       refine Mw.p rfl rfl (fun _ => R.ix (α := List Int) f.rd am rfl rfl rfl) ?_
       obtain ⟨d9, c142, r143⟩ := (f.rd.at_ am).cell rfl
       refine Mw.q rfl rfl (fun _ c => R.ld rfl rfl (zah (f.rd.at_ am).1 rfl c142 c)) (Di rfl (Mw.p rfl rfl (fun _ => R.add rfl rfl) ?_))
       obtain ⟨ea, an, hm⟩ := ob hm
       refine Mw.p rfl rfl (fun _ => R.ix (α := Int) r143 an rfl rfl rfl) (Mw.q rfl rfl (fun _ c => R.ld rfl rfl (zah (r143.at_ an).1 rfl (r143.at_ an).int c)) ?_)
       obtain ⟨eb, ct, hm⟩ := ob hm
       refine Mw.p rfl rfl (fun _ => R.ix (α := Int) r138 ct rfl rfl rfl) ?_
       obtain ⟨ec, cu, cv, cw, gb148⟩ := Ow.lend (α := List Int) (β := List Int) (j := 7) (jf := 0) f P (by rw [ziu]; exact c137) rfl
       rw [← cu]
       obtain ⟨ed, cx, hm⟩ := ob hm
       refine Mw.lu rfl (T.stS (K' := []) cw (rdI _) cx rfl rfl rfl) ?_
       rintro _ _ ⟨ee, rfl, a9, cy⟩
       obtain ⟨cz, c0, c1, c2, eq155, c3⟩ := gb148 _ _ a9 cy
       obtain ⟨ba, eqm155, hm⟩ := ob hm
       obtain rfl : ba = c2 := Option.some.inj (eqm155.symm.trans eq155)
       rw [← c0]
       exact Mw.nil ((ag) ⟨ba, cz, rfl, (((((x.j ac).j a8).j cv).j a9).j c1).w, rfl, c3, hm⟩)
   ·refine Cw.exit ?_
    rw [bv] at hm
    exact rg (mi rfl (Lw.sub rfl (Ni rfl ((agm) ⟨w64 (D - 1), L, vI E, k, rfl, (az.j V).w, rfl, W, hm⟩))))
  ·refine Cw.exit ?_
   rw [br] at hm
   refine sr (mv a rfl (Nv a rfl ?_))
   cases hm
   exact Cw.ret (zhB rfl (Res.mk U ⟨a, rfl, a0.s.sub rfl rfl⟩))
theorem p252 {x0 b x1 d k0 r} (f : Rd W K [b] x0) (h : Rd W K [d] x1) (hm : Vm.zeZ x0 x1 = some r) : Q1 252 [b, d] W [] fun W' v => ∃ a, v = a ∧ Ow W' k0 [] [a] r :=
 (c252 (f.view _) (h.view _) hm).ad (fk k0) fun _ _ ⟨a, e, i⟩ => ⟨a, e, i.back (zfR _)⟩
theorem c224 {x0 x x1 i r} (y : Rd W0 [0] [x] x0) (I : Rd W0 [0] [i] x1) (hm : Vm.zdT x0 x1 = some r) : Q0 224 [x, i] W0 fun Wf v => ∃ X, v = X ∧ OwS Wf LL [] [X] r := by
 unfold Vm.zdT at hm
 refine zaj.of Tryz.func224 rfl rfl rfl rfl (sr (Nv (.slice none 0 0) rfl (sr (mv x rfl (mv i rfl (cr hm (fun _ => p252 (k0 := 2) y I) ?_))))))
 rintro z1 J W3 hm l3 ⟨_, rfl, au⟩
 have a4 := l3.o
 refine Nv J rfl (sr (Lw.t rfl (T.lit0 (α := Int) 3 []) ?_))
 rintro Y _ ⟨Z, rfl, l5, o5⟩
 have a6 := a4.n l5
 refine Nv Y rfl (sr (Ni rfl (ssr (Ni rfl (Cw.block ?_)))))
 obtain ⟨ay, az, hm⟩ := zaS hm
 refine Cw.loop 13 71 [6, 7, 8] (fun m l w => ∃ B d e f z, CW.w z = w ∧ Le [3] Z z ∧ l = [f, vI d, vI e] ∧ Ow z 3 [] [f] B ∧ Vm.zb7 x0 x1 z1 ay m B d e = some r) _ ⟨([] : List Int), 0, 0, Y, Z, rfl, Le.refl _ _, rfl, o5, hm⟩ ?_
 rintro (_ | bn) _ _ σ ⟨B, d, e, f, z, rfl, A, rfl, K, hm⟩
 ·cases hm
 unfold Vm.zb7 at hm
 have C := a6.t A
 refine ssr (mi rfl (mv x rfl (Lw.ln x0 (y.ul C) rfl (Lw.lt rfl (nl (cn hm (fun hm => ?_) fun hm => ?_))))))
 ·refine sk (Cw.block (Cw.block ?_))
  obtain ⟨a0, a1, hm⟩ := zaS hm
  refine Cw.join 19 34 [19] (fun l w => ∃ L D, CW.w D = w ∧ Le [] z D ∧ l = [vB L] ∧ a0 L = some r) ?_ ?_
  ·rintro _ _ σ ⟨L, D, rfl, h, rfl, hm⟩
   rw [a1] at hm
   have a2 := C.n h
   refine cn hm (fun hm => ?_) fun hm => ?_
   ·refine sr (mv f rfl (mi rfl (Lw.t rfl (T.bs 4 [vI d] (cs := [vI d]) rfl rfl (bsv rfl)) ?_)))
    rintro _ _ ⟨bp, bq, rfl, rfl, ac, a3⟩
    obtain ⟨a5, a7, hm⟩ := ob hm
    refine Lw.t rfl (T.app1S (α := Int) (K' := []) ((K.up h).up ac) a3 (rdI _) rfl rfl a7) ?_
    rintro ae _ ⟨a8, rfl, a9, ba⟩
    exact Nv ae rfl (sr (mi rfl (Lw.add rfl (Ni rfl (rg (mi rfl (Lw.add rfl (Ni rfl ((agm) ⟨a5, w64 (d + 1), w64 (e + 1), ae, a8, rfl, (((A.j h).j ac).j a9).w, rfl, ba, hm⟩)))))))))
   ·obtain ⟨bb, bc, hm⟩ := zaS hm
    refine Cw.join 43 66 [43] (fun l w => ∃ M E, CW.w E = w ∧ Le [] D E ∧ l = [vB M] ∧ bb M = some r) ?_ ?_
    ·rintro _ _ σ ⟨M, E, rfl, N, rfl, hm⟩
     rw [bc] at hm
     have af := (K.up h).up N
     refine cn hm (fun hm => ?_) fun hm => ?_
     ·refine sr (mv f rfl (Lw.t rfl (T.bs 5 [vI (-1)] (cs := [vI (-1)]) rfl rfl (bsv rfl)) ?_))
      rintro _ _ ⟨br, bu, rfl, rfl, ah, be⟩
      obtain ⟨bg, bh, hm⟩ := ob hm
      refine Lw.t rfl (T.app1S (α := Int) (K' := []) (af.up ah) be (rdI _) rfl rfl bh) ?_
      rintro ai _ ⟨bi, rfl, bj, bk⟩
      exact Nv ai rfl (rg (mi rfl (Lw.add rfl (Ni rfl ((agm) ⟨bg, d, w64 (e + 1), ai, bi, rfl, ((((A.j h).j N).j ah).j bj).w, rfl, bk, hm⟩)))))
     ·exact rg (mi rfl (Lw.add rfl (Ni rfl ((agm) ⟨B, w64 (d + 1), e, f, E, rfl, ((A.j h).j N).w, rfl, af, hm⟩))))
    ·refine Cw.draw [] [(0, 0), (1, 0), (2, 0), (3, 0), (4, 0), (5, 0), (6, 0), (7, 0), (8, 0), (9, 1), (10, 0), (11, 0), (12, 1), (13, 0), (14, 0), (15, 0), (16, 1), (17, 0), (18, 0), (19, 0), (20, 1), (21, 0), (22, 0), (23, 0)] mixed (by kernel_rfl) fun aj F => ?_
     have bl := a2.n F
     have k := (((au.up l5).up A).up h).up F
     refine Di rfl (Dv i rfl (Mw.p rfl rfl (fun _ => zs4 (xs := x1) (I.ul bl) rfl) (Mw.p rfl rfl (fun _ => R.ge rfl rfl) (Db rfl (bs hm (fun a hm => ?_) fun a hm => ?_)))))
     ·exact dps 17 a rfl (Mw.p rfl rfl (fun _ => R.pk a rfl (v := vB true) rfl) (Hb rfl (Mw.nil ((ag) ⟨true, aj, rfl, F, rfl, hm⟩))))
     ·refine Wp a rfl (fun _ => R.mv (v := J) rfl) (Wp a rfl (fun _ => R.mv (v := vI e) rfl) (Wp a rfl (fun _ => R.add rfl rfl) ?_))
      obtain ⟨bv, O, hm⟩ := ob hm
      refine Wp a rfl (fun _ => R.ix (α := List Int) k.rd O rfl rfl rfl) ?_
      obtain ⟨bw, c63, r64⟩ := (k.rd.at_ O).cell rfl
      refine Wq a rfl (fun _ c => R.ld rfl rfl (zah (k.rd.at_ O).1 rfl c63 c)) (Wp a rfl (fun _ => R.mv (v := vI d) rfl) ?_)
      obtain ⟨ak, P, hm⟩ := ob hm
      refine Wp a rfl (fun _ => R.ix (α := Int) r64 P rfl rfl rfl) (Wq a rfl (fun _ c => R.ld rfl rfl (zah (r64.at_ P).1 rfl (r64.at_ P).int c)) (Wp a rfl (fun _ => R.mv (v := J) rfl) (Wp a rfl (fun _ => R.mv (v := vI e) rfl) ?_)))
      obtain ⟨bz, Q, hm⟩ := ob hm
      refine Wp a rfl (fun _ => R.ix (α := List Int) k.rd Q rfl rfl rfl) ?_
      obtain ⟨b0, c70, r71⟩ := (k.rd.at_ Q).cell rfl
      refine Wq a rfl (fun _ c => R.ld rfl rfl (zah (k.rd.at_ Q).1 rfl c70 c)) (Wp a rfl (fun _ => R.mv (v := vI d) rfl) (Wp a rfl (fun _ => R.add rfl rfl) ?_))
      obtain ⟨am, S, hm⟩ := ob hm
      exact Wp a rfl (fun _ => R.ix (α := Int) r71 S rfl rfl rfl) (Wq a rfl (fun _ c => R.ld rfl rfl (zah (r71.at_ S).1 rfl (r71.at_ S).int c)) (Wp a rfl (fun _ => R.ge rfl rfl) (Mw.p rfl rfl (fun _ => R.pk a rfl (v := vB (decide ((am : Int) ≤ (ak : Int)))) rfl) (Hb rfl (Mw.nil ((ag) ⟨decide ((am : Int) ≤ (ak : Int)), aj, rfl, F, rfl, hm⟩))))))
  ·refine Cw.draw [] [(0, 0), (1, 0), (2, 0), (3, 0), (4, 0), (5, 0), (6, 0), (7, 0), (8, 1), (9, 0), (10, 0), (11, 0), (12, 1), (13, 0), (14, 0), (15, 0)] mixed (by kernel_rfl) fun an U => ?_
   have G := C.n U
   have H := I.ul G
   refine Di rfl (Dv i rfl (Mw.p rfl rfl (fun _ => zs4 (xs := x1) H rfl) (Mw.p rfl rfl (fun _ => R.lt rfl rfl) (Db rfl (bs hm (fun b hm => ?_) fun b hm => ?_)))))
   ·refine Wp b rfl (fun _ => R.mv (v := x) rfl) (Wp b rfl (fun _ => R.mv (v := vI e) rfl) ?_)
    obtain ⟨ao, V, hm⟩ := ob hm
    refine Wp b rfl (fun _ => R.ix (α := Str) (y.ul G) V rfl rfl rfl) (Wq b rfl (fun _ c => R.ld rfl rfl (zah ((y.ul G).at_ V).1 rfl ((y.ul G).at_ V).str c)) (Wp b rfl (fun _ => R.mv (v := i) rfl) (Wp b rfl (fun _ => R.mv (v := vI d) rfl) ?_)))
    obtain ⟨ap, W, hm⟩ := ob hm
    exact Wp b rfl (fun _ => R.ix (α := Str) H W rfl rfl rfl) (Wq b rfl (fun _ c => R.ld rfl rfl (zah (H.at_ W).1 rfl (H.at_ W).str c)) (Wp b rfl (fun _ => R.seq rfl rfl) (Mw.p rfl rfl (fun _ => R.pk b rfl (v := vB (ao == ap)) rfl) (Hb rfl (Mw.nil ((ag) ⟨(ao == ap), an, rfl, U, rfl, hm⟩))))))
   ·exact dps 9 b rfl (Mw.p rfl rfl (fun _ => R.pk b rfl (v := vB false) rfl) (Hb rfl (Mw.nil ((ag) ⟨false, an, rfl, U, rfl, hm⟩))))
 ·refine Cw.exit ?_
  rw [az] at hm
  refine sr (mv f rfl (Nv f rfl ?_))
  cases hm
  exact Cw.ret (zhB rfl (Res.mk C ⟨f, rfl, K.s.sub rfl rfl⟩))
theorem p224 {x0 b x1 d k0 r} (f : Rd W K [b] x0) (h : Rd W K [d] x1) (hm : Vm.zdT x0 x1 = some r) : Q1 224 [b, d] W [] fun W' v => ∃ a, v = a ∧ Ow W' k0 [] [a] r :=
 (c224 (f.view _) (h.view _) hm).ad (fk k0) fun _ _ ⟨a, e, i⟩ => ⟨a, e, i.back (zfR _)⟩
theorem c86 {x0 x1 x2 r} (hm : Vm.zeF x0 x1 x2 = some r) : Q0 86 [vI x0, vI x1, vI x2] W0 fun Wf v => v = vB r := by
 unfold Vm.zeF at hm
 refine zaj.of Tryz.func86 rfl rfl rfl rfl (sr (Nb rfl ?_))
 obtain ⟨e, f, hm⟩ := zaS hm
 refine Cw.join 7 14 [6] (fun l w => ∃ b d, CW.w d = w ∧ Le [] W0 d ∧ l = [vB b] ∧ e b = some r) ?_ ?_
 ·rintro _ _ σ ⟨b, d, rfl, h, rfl, hm⟩
  rw [f] at hm
  have i := h.o
  exact .ret (rt hm i)
 ·refine rg (mi rfl (mi rfl (Lw.le rfl (mb rfl (bs hm (fun a hm => ?_) fun a hm => ?_)))))
  ·exact wak 3 a (mi rfl (mi rfl (Lw.le rfl (Pb a rfl (Nb rfl ((ag) ⟨decide ((x0 : Int) ≤ (x2 : Int)), W0, rfl, Le.refl _ _, rfl, hm⟩))))))
  ·exact psk 3 a rfl (Pb a rfl (Nb rfl ((ag) ⟨false, W0, rfl, Le.refl _ _, rfl, hm⟩)))
theorem p86 {x0 x1 x2 r} (hm : Vm.zeF x0 x1 x2 = some r) : Q1 86 [vI x0, vI x1, vI x2] W [] fun W' v => v = vB r :=
 (c86 (W0 := W.view [] [])  hm).ad (fk 0) fun _ _ e => e
theorem c140 {x0 r} (hm : Vm.zeg x0 = some r) : Q0 140 [.int .u8 (UInt8.toNat x0 : Int)] W0 fun Wf v => v = vB r := by
 unfold Vm.zeg at hm
 refine zaj.of Tryz.func140 rfl rfl rfl rfl (sr (Nb rfl ?_))
 obtain ⟨i, k, hm⟩ := zaS hm
 refine Cw.join 3 16 [2] (fun l w => ∃ f h, CW.w h = w ∧ Le [] W0 h ∧ l = [vB f] ∧ i f = some r) ?_ ?_
 ·rintro _ _ σ ⟨f, h, rfl, x, rfl, hm⟩
  rw [k] at hm
  have y := x.o
  exact .ret (rt hm y)
 ·refine rg (mv (.int .u8 (UInt8.toNat x0 : Int)) rfl (Lw.ge rfl (mb rfl (bs hm (fun b hm => ?_) fun b hm => ?_))))
  ·refine wak 2 b (mv (.int .u8 (UInt8.toNat x0 : Int)) rfl (Lw.le rfl (Pb b rfl (mb rfl (bs hm (fun a hm => ?_) fun a hm => ?_)))))
   ·exact psk 3 a rfl (puk 2 rfl (psk 1 a rfl (Pb a rfl (Nb rfl ((ag) ⟨true, W0, rfl, Le.refl _ _, rfl, hm⟩)))))
   ·refine wak 3 a (mv (.int .u8 (UInt8.toNat x0 : Int)) rfl (Lw.ge rfl (mb rfl (bs hm (fun d hm => ?_) fun d hm => ?_))))
    ·exact wak 2 d (mv (.int .u8 (UInt8.toNat x0 : Int)) rfl (Lw.le rfl (wak 1 a (Pb d rfl (Pb a rfl (Nb rfl ((ag) ⟨decide (((UInt8.toNat x0 : Int) : Int) ≤ (57 : Int)), W0, rfl, Le.refl _ _, rfl, hm⟩)))))))
    ·exact psk 2 d rfl (wak 1 a (Pb d rfl (Pb a rfl (Nb rfl ((ag) ⟨false, W0, rfl, Le.refl _ _, rfl, hm⟩)))))
  ·refine psk 2 b rfl (Pb b rfl (mb rfl (wak 3 rfl (mv (.int .u8 (UInt8.toNat x0 : Int)) rfl (Lw.ge rfl (mb rfl (bs hm (fun e hm => ?_) fun e hm => ?_)))))))
   ·exact wak 2 e (mv (.int .u8 (UInt8.toNat x0 : Int)) rfl (Lw.le rfl (wak 1 rfl (Pb e rfl (Pb rfl rfl (Nb rfl ((ag) ⟨decide (((UInt8.toNat x0 : Int) : Int) ≤ (57 : Int)), W0, rfl, Le.refl _ _, rfl, hm⟩)))))))
   ·exact psk 2 e rfl (wak 1 rfl (Pb e rfl (Pb rfl rfl (Nb rfl ((ag) ⟨false, W0, rfl, Le.refl _ _, rfl, hm⟩)))))
theorem p140 {x0 r} (hm : Vm.zeg x0 = some r) : Q1 140 [.int .u8 (UInt8.toNat x0 : Int)] W [] fun W' v => v = vB r :=
 (c140 (W0 := W.view [] [])  hm).ad (fk 0) fun _ _ e => e
theorem c84 {x0 r} (hm : Vm.zb0 x0 = some r) : Q0 84 [vS x0] W0 fun Wf v => v = vB r := by
 unfold Vm.zb0 at hm
 refine zaj.of Tryz.func84 rfl rfl rfl rfl (sr (Nb rfl (ssr (ms rfl (Lw.r rfl (R.lenS rfl) (ca hm (fun _ => p86) fun D e hm x => ?_))))))
 have f := x.o
 refine Lw.r rfl (R.not rfl) (nl (cn hm (fun hm => ?_) fun hm => ?_))
 ·exact sr (Nb rfl (.ret (rt hm f)))
 ·refine sk (ssr (Ni rfl (Cw.block ?_)))
  obtain ⟨y, z, hm⟩ := zaS hm
  refine Cw.loop 8 18 [2, 3] (fun m l w => ∃ a b d, CW.w d = w ∧ Le [] e d ∧ l = [vB a, vI b] ∧ Vm.zck x0 y m a b = some r) _ ⟨false, 0, e, rfl, Le.refl _ _, rfl, hm⟩ ?_
  rintro (_ | E) _ _ σ ⟨a, b, d, rfl, h, rfl, hm⟩
  ·cases hm
  unfold Vm.zck at hm
  have i := f.n h
  refine ssr (mi rfl (ms rfl (Lw.r rfl (R.lenS rfl) (Lw.lt rfl (nl (cn hm (fun hm => ?_) fun hm => ?_))))))
  ·refine sk (Cw.seq (Cw.block (sr (ms rfl (mi rfl ?_)))))
   obtain ⟨F, A, hm⟩ := ob hm
   refine Lw.r rfl (R.chm A rfl rfl) (ca hm (fun _ => p140) fun G B hm k => ?_)
   have C := i.n k
   refine Lw.r rfl (R.not rfl) (nl (cn hm (fun hm => ?_) fun hm => ?_))
   ·exact sr (Nb rfl (.ret (rt hm C)))
   ·exact sk (rg (mi rfl (Lw.add rfl (Ni rfl ((agm) ⟨a, w64 (b + 1), B, rfl, (h.j k).w, rfl, hm⟩)))))
  ·refine Cw.exit ?_
   rw [z] at hm
   exact sr (Nb rfl (.ret (rt hm i)))
theorem p84 {x0 r} (hm : Vm.zb0 x0 = some r) : Q1 84 [vS x0] W [] fun W' v => v = vB r :=
 (c84 (W0 := W.view [] [])  hm).ad (fk 0) fun _ _ e => e
theorem c177 {x0 r} (hm : Vm.zfG x0 = some r) : Q0 177 [vS x0] W0 fun Wf v => v = vB r := by
 unfold Vm.zfG at hm
 refine zaj.of Tryz.func177 rfl rfl rfl rfl (sr (Nb rfl (ssr (ms rfl (Lw.r rfl (R.lenS rfl) (Lw.gt rfl (nl (cn hm (fun hm => ?_) fun hm => ?_))))))))
 ·exact sr (Nb rfl (.ret (rt hm (Le.refl _ _))))
 ·refine sk (ssr (Ni rfl (Cw.block ?_)))
  obtain ⟨x, y, hm⟩ := zaS hm
  refine Cw.loop 7 22 [2, 3] (fun m l w => ∃ d e a, CW.w a = w ∧ Le [] W0 a ∧ l = [vB d, vI e] ∧ Vm.zcl x0 x m d e = some r) _ ⟨false, 0, W0, rfl, Le.refl _ _, rfl, hm⟩ ?_
  rintro (_ | F) _ _ σ ⟨d, e, a, rfl, i, rfl, hm⟩
  ·cases hm
  unfold Vm.zcl at hm
  have k := i.o
  refine ssr (mi rfl (ms rfl (Lw.r rfl (R.lenS rfl) (Lw.lt rfl (nl (cn hm (fun hm => ?_) fun hm => ?_))))))
  ·refine sk (Cw.seq (Cw.block ?_))
   obtain ⟨z, A, hm⟩ := zaS hm
   refine Cw.join 13 22 [22] (fun l w => ∃ h f, CW.w f = w ∧ Le [] a f ∧ l = [vB h] ∧ z h = some r) ?_ ?_
   ·rintro _ _ σ ⟨h, f, rfl, l10, rfl, hm⟩
    rw [A] at hm
    have B := k.n l10
    refine cn hm (fun hm => ?_) fun hm => ?_
    ·exact sr (Nb rfl (.ret (rt hm B)))
    ·exact sk (rg (mi rfl (Lw.add rfl (Ni rfl ((agm) ⟨d, w64 (e + 1), f, rfl, (i.j l10).w, rfl, hm⟩)))))
   ·refine rg (ms rfl (mi rfl ?_))
    obtain ⟨G, C, hm⟩ := ob hm
    refine Lw.r rfl (R.chm C rfl rfl) (Lw.lt rfl (mb rfl (bs hm (fun b hm => ?_) fun b hm => ?_)))
    ·exact psk 4 b rfl (Pb b rfl (nl ((ag) ⟨true, a, rfl, Le.refl _ _, rfl, hm⟩)))
    ·refine wak 4 b (ms rfl (mi rfl ?_))
     obtain ⟨D, E, hm⟩ := ob hm
     exact Lw.r rfl (R.chm E rfl rfl) (Lw.gt rfl (Pb b rfl (nl ((ag) ⟨decide ((126 : Int) < ((UInt8.toNat D : Int) : Int)), a, rfl, Le.refl _ _, rfl, hm⟩))))
  ·refine Cw.exit ?_
   rw [y] at hm
   exact sr (Nb rfl (.ret (rt hm k)))
theorem p177 {x0 r} (hm : Vm.zfG x0 = some r) : Q1 177 [vS x0] W [] fun W' v => v = vB r :=
 (c177 (W0 := W.view [] [])  hm).ad (fk 0) fun _ _ e => e
theorem c141 {x0 a r} (b : Rd W0 [0] [a] x0) (hm : Vm.zbQ x0 = some r) : Q0 141 [a] W0 fun Wf v => v = vB r := by
 unfold Vm.zbQ at hm
 refine zaj.of Tryz.func141 rfl rfl rfl rfl (sr (Nb rfl (ssr (mv a rfl (Lw.ln x0 b rfl (Lw.gt rfl (nl (cn hm (fun hm => ?_) fun hm => ?_))))))))
 ·exact sr (Nb rfl (.ret (rt hm (Le.refl _ _))))
 ·refine sk (ssr (mv a rfl (Lw.ln x0 b rfl (mi rfl (nl (Cw.block ?_))))))
  obtain ⟨z, A, hm⟩ := zaS hm
  refine Cw.loop 10 17 [2, 4, 10] (fun m l w => ∃ d e i h, CW.w h = w ∧ Le [] W0 h ∧ l = [vB d, i, vI e] ∧ Vm.zcm x0 z m d e = some r) _ ⟨false, 0, undef, W0, rfl, Le.refl _ _, rfl, hm⟩ ?_
  rintro (_ | E) _ _ σ ⟨d, e, i, h, rfl, k, rfl, hm⟩
  ·cases hm
  unfold Vm.zcm at hm
  have f := k.o
  refine sr (Lw.lt rfl (nl (Cw.seq (cn hm (fun hm => ?_) fun hm => ?_))))
  ·refine sk (Cw.seq (Cw.block (sr ?_)))
   obtain ⟨B, x, hm⟩ := ob hm
   refine Lw.r rfl (R.ix (α := Str) (b.ul f) x rfl rfl rfl) (Lw.r rfl (R.ld rfl rfl ((b.ul f).at_ x).str) (Ns rfl (sr (ms rfl (ca hm (fun _ => p177) fun F C hm y => ?_)))))
   have D := f.n y
   refine Lw.r rfl (R.not rfl) (nl (cn hm (fun hm => ?_) fun hm => ?_))
   ·exact sr (Nb rfl (.ret (rt hm D)))
   ·exact sk (rg (Lw.add rfl (mi rfl (nl ((agm) ⟨d, w64 (e + 1), vS B, C, rfl, (k.j y).w, rfl, hm⟩)))))
  ·refine Cw.exit ?_
   rw [A] at hm
   exact sr (Nb rfl (.ret (rt hm f)))
theorem p141 {x0 a r} (b : Rd W K [a] x0) (hm : Vm.zbQ x0 = some r) : Q1 141 [a] W [] fun W' v => v = vB r :=
 (c141 (b.view _) hm).ad (fk 0) fun _ _ e => e
theorem c142 {x0 r} (C : Gl 0 W0 [0]) (hm : Vm.zdO x0 = some r) : Q0 142 [vS x0] W0 fun Wf v => v = vB r := by
 unfold Vm.zdO at hm
 refine zaj.of Tryz.func142 rfl rfl rfl rfl (sr (Nb rfl (sr (ms rfl (cr hm (fun _ => p178 (k0 := 2) C) ?_)))))
 rintro f h k hm D ⟨_, rfl, a⟩
 have x := D.o
 refine Nv h rfl (ssr (mv h rfl (Lw.ln f a.rd rfl (Lw.gt rfl (nl (cn hm (fun hm => ?_) fun hm => ?_))))))
 ·exact sr (Nb rfl (.ret (rt hm x)))
 ·refine sk (ssr (mv h rfl (Lw.ln f a.rd rfl (mi rfl (nl (Cw.block ?_))))))
  obtain ⟨E, F, hm⟩ := zaS hm
  refine Cw.loop 13 20 [2, 5, 13] (fun m l w => ∃ b d y i, CW.w i = w ∧ Le [] k i ∧ l = [vB b, y, vI d] ∧ Vm.zcn f E m b d = some r) _ ⟨false, 0, undef, k, rfl, Le.refl _ _, rfl, hm⟩ ?_
  rintro (_ | J) _ _ σ ⟨b, d, y, i, rfl, e, rfl, hm⟩
  ·cases hm
  unfold Vm.zcn at hm
  have z := x.n e
  refine sr (Lw.lt rfl (nl (Cw.seq (cn hm (fun hm => ?_) fun hm => ?_))))
  ·refine sk (Cw.seq (Cw.block (sr ?_)))
   obtain ⟨G, A, hm⟩ := ob hm
   refine Lw.r rfl (R.ix (α := Str) (a.up e).rd A rfl rfl rfl) (Lw.r rfl (R.ld rfl rfl ((a.up e).rd.at_ A).str) (Ns rfl (sr (ms rfl (ca hm (fun _ => p84) fun K H hm B => ?_)))))
   have I := z.n B
   refine Lw.r rfl (R.not rfl) (nl (cn hm (fun hm => ?_) fun hm => ?_))
   ·exact sr (Nb rfl (.ret (rt hm I)))
   ·exact sk (rg (Lw.add rfl (mi rfl (nl ((agm) ⟨b, w64 (d + 1), vS G, H, rfl, (e.j B).w, rfl, hm⟩)))))
  ·refine Cw.exit ?_
   rw [F] at hm
   exact sr (Nb rfl (.ret (rt hm z)))
theorem p142 {x0 r} (a : Gl 0 W K) (hm : Vm.zdO x0 = some r) : Q1 142 [vS x0] W [] fun W' v => v = vB r :=
 (c142 (a.view _) hm).ad (fk 0) fun _ _ e => e
end Go.Sx
