/- Walks: each function answers as its model, printed by a program of ours. Conditions: the arguments read as they are given. -/
import Derived.Test.YtbimgeocngkboaaGreatDoorATs
import Derived.Test.YtbimgeocngkboaaGreatDoorAM2
import Derived.Test.YtbimgeocngkboaaGreatDoorAW0
import Derived.Test.YtbimgeocngkboaaGreatDoorAW1
import Derived.Test.YtbimgeocngkboaaGreatDoorAW2
import Derived.Test.YtbimgeocngkboaaGreatDoorAW3
import Derived.Test.YtbimgeocngkboaaGreatDoorAW4
import Derived.Test.YtbimgeocngkboaaGreatDoorAE
namespace Go.Sx
open Go Go.Proofs Go.Vm Rp
set_option linter.unusedVariables false
set_option linter.unusedSimpArgs false
variable {W W0 : CW} {K : List Nat}
theorem c43 {x0 Q S x1 r} (h0 : Rd W0 [0] [Q, S] x0) (hm : Vm.spec_l8All x0 x1 = some r) : Q0 43 [.agg [Q, S].toArray, vI x1] W0 fun Wf v => ∃ U, v = U ∧ OwS Wf LL [] [U] r := by
 unfold Vm.spec_l8All at hm
 obtain ⟨b9, cb, V, k, cc⟩ := Repo.split h0
 simp only [List.cons.injEq, and_true, true_and] at V
 obtain ⟨rfl, rfl⟩ := V
 refine CallR.of Tryz.func43 rfl rfl rfl rfl (sr (bo 2 rfl fun g1 W1 l1 W => ?_))
 have X := l1.o
 refine Nv (.slice none 0 0) rfl (sr (fl W rfl (Lw.ln x0.Commits (k.ul X) rfl ?_)))
 obtain ⟨q4, e5, hm⟩ := ob hm
 refine Lw.t rfl (T.mk (α := Bool) 3 [] (n := (x0.Commits.length : Int)) rfl rfl e5) ?_
 rintro a _ ⟨W6, rfl, Y, Z⟩
 have a7 := X.n Y
 refine Nv a rfl (sr (mv a rfl (mi rfl ?_)))
 obtain ⟨u9, a1, hm⟩ := ob hm
 refine Lw.r rfl (R.ix (α := Bool) Z.rd a1 rfl rfl rfl) ?_
 obtain ⟨a3, a4, hm⟩ := ob hm
 refine Lw.u (T.stS (K' := []) Z (rdB _) a4 rfl rfl rfl) ?_
 rintro _ _ ⟨aa, rfl, ac, a5⟩
 have a6 := a7.t ac
 refine nl (ssr (mi rfl (Ni rfl (Cw.block ?_))))
 obtain ⟨a8, a9, hm⟩ := jn_e hm
 refine Cw.loop 18 49 [6, 7] (fun m l w => ∃ x e ae f, CW.w f = w ∧ Le [3] aa f ∧ l = [vI x, ae] ∧ Ow f 3 [] [a] e ∧ Vm.spec_l8All_l1 x0 a8 m x e = some r) _ ⟨x1, a3, undef, aa, rfl, Le.refl _ _, rfl, a5, hm⟩ ?_
 rintro (_ | ci) _ _ σ ⟨x, e, ae, f, rfl, I, rfl, af, hm⟩
 ·cases hm
 unfold Vm.spec_l8All_l1 at hm
 have ah := a6.t I
 refine ssr (mi rfl (Lw.ge rfl (nl (cn hm (fun hm => ?_) fun hm => ?_))))
 ·refine sk (Cw.seq (Cw.block (sr (Ni rfl (Cw.block ?_)))))
  obtain ⟨ba, bb, hm⟩ := jn_e hm
  refine Cw.loop 22 49 [7] (fun m l w => ∃ y C d, CW.w d = w ∧ Le [3] f d ∧ l = [vI y] ∧ Ow d 3 [] [a] C ∧ Vm.spec_l8All_l2 x0 x ba m y C = some r) _ ⟨0, e, f, rfl, Le.refl _ _, rfl, af, hm⟩ ?_
  rintro (_ | cj) _ _ σ ⟨y, C, d, rfl, D, rfl, J, hm⟩
  ·cases hm
  unfold Vm.spec_l8All_l2 at hm
  have K := ah.t D
  have ai := (((W.up Y).up ac).up I).up D
  refine Cw.seq ?_
  obtain ⟨bc, be, hm⟩ := jn_e hm
  refine Cw.join 22 36 [36] (fun l w => ∃ L E, CW.w E = w ∧ Le [] d E ∧ l = [vB L] ∧ bc L = some r) ?_ ?_
  ·rintro _ _ σ ⟨L, E, rfl, z, rfl, hm⟩
   rw [be] at hm
   have aj := K.n z
   have M := J.up z
   refine cn hm (fun hm => ?_) fun hm => ?_
   ·refine sk (Cw.seq (Cw.block (rg (mv a rfl (fl (ai.up z) rfl (mi rfl ?_))))))
    obtain ⟨ck, ak, hm⟩ := ob hm
    refine Lw.r rfl (R.ix (α := Commit) (k.ul aj) ak rfl rfl rfl) (Lw.fa rfl ?_)
    obtain ⟨cl, c45, r46⟩ := (Commit.at0 ((k.ul aj).at_ ak)).cell rfl
    refine Lw.r rfl (R.ld rfl rfl c45) (mi rfl ?_)
    obtain ⟨cm, am, hm⟩ := ob hm
    refine Lw.r rfl (R.ix (α := Int) r46 am rfl rfl rfl) (Lw.r rfl (R.ld rfl rfl (r46.at_ am).int) ?_)
    obtain ⟨co, bg, hm⟩ := ob hm
    refine Lw.r rfl (R.ix (α := Bool) M.rd bg rfl rfl rfl) ?_
    obtain ⟨bh, bi, hm⟩ := ob hm
    refine Lw.u (T.stS (K' := []) M (rdB _) bi rfl rfl rfl) ?_
    rintro _ _ ⟨bj, rfl, bk, bl⟩
    exact nl (rg (mi rfl (Lw.add rfl (Ni rfl ((agm) ⟨w64 (y + 1), bh, bj, rfl, ((D.j z).j bk).w, rfl, bl, hm⟩)))))
   ·refine Cw.exit ?_
    rw [bb] at hm
    exact rg (mi rfl (Lw.sub rfl (Ni rfl ((agm) ⟨w64 (x - 1), C, vI y, E, rfl, ((I.j D).j z).w, rfl, M, hm⟩))))
  ·refine rg (mi rfl (fl ai rfl (mi rfl ?_)))
   obtain ⟨bm, an, hm⟩ := ob hm
   refine Lw.r rfl (R.ix (α := Commit) (k.ul K) an rfl rfl rfl) (Lw.fa rfl ?_)
   obtain ⟨cp, c60, r61⟩ := (Commit.at0 ((k.ul K).at_ an)).cell rfl
   refine Lw.r rfl (R.ld rfl rfl c60) (Lw.ln bm.Parents r61 rfl (Lw.lt rfl (mb rfl (bs hm (fun A hm => ?_) fun A hm => ?_))))
   ·refine wak 4 A (mv a rfl (mi rfl ?_))
    obtain ⟨bn, ao, hm⟩ := ob hm
    exact Lw.r rfl (R.ix (α := Bool) J.rd ao rfl rfl rfl) (Lw.r rfl (R.ld rfl rfl (J.rd.at_ ao).bool) (Pb A rfl (nl ((ag) ⟨bn, d, rfl, Le.refl _ _, rfl, hm⟩))))
   ·exact psk 4 A rfl (Pb A rfl (nl ((ag) ⟨false, d, rfl, Le.refl _ _, rfl, hm⟩)))
 ·refine Cw.exit ?_
  rw [a9] at hm
  refine sr (Lw.t rfl (T.lit0 (α := Int) 4 []) ?_)
  rintro ap _ ⟨aq, rfl, ar, bp⟩
  have bq := ah.n ar
  refine Nv ap rfl (ssr (Ni rfl (Cw.block ?_)))
  obtain ⟨br, bu, hm⟩ := jn_e hm
  refine Cw.loop 51 64 [8, 9] (fun m l w => ∃ F h b i, CW.w i = w ∧ Le [4] aq i ∧ l = [b, vI h] ∧ Ow i 4 [] [b] F ∧ Vm.spec_l8All_l3 e br m F h = some r) _ ⟨([] : List Int), 0, ap, aq, rfl, Le.refl _ _, rfl, bp, hm⟩ ?_
  rintro (_ | cq) _ _ σ ⟨F, h, b, i, rfl, N, rfl, O, hm⟩
  ·cases hm
  unfold Vm.spec_l8All_l3 at hm
  have bv := bq.t N
  have P := (af.up ar).up N
  refine ssr (mi rfl (mv a rfl (Lw.ln e P.rd rfl (Lw.lt rfl (nl (cn hm (fun hm => ?_) fun hm => ?_))))))
  ·refine sk ?_
   obtain ⟨bw, bz, hm⟩ := jn_e hm
   refine Cw.join 57 64 [8] (fun l w => ∃ G H B, CW.w B = w ∧ Le [4] i B ∧ l = [H] ∧ Ow B 4 [] [H] G ∧ bw G = some r) ?_ ?_
   ·rintro _ _ σ ⟨G, H, B, rfl, b0, rfl, b2, hm⟩
    rw [bz] at hm
    exact rg (mi rfl (Lw.add rfl (Ni rfl ((agm) ⟨G, w64 (h + 1), H, B, rfl, (N.j b0).w, rfl, b2, hm⟩))))
   ·refine Cw.block (sr (mv a rfl (mi rfl ?_)))
    obtain ⟨ct, au, hm⟩ := ob hm
    refine Lw.r rfl (R.ix (α := Bool) P.rd au rfl rfl rfl) (Lw.r rfl (R.ld rfl rfl (P.rd.at_ au).bool) (nl (cn hm (fun hm => ?_) fun hm => ?_)))
    ·refine rg (mv b rfl (mi rfl (Lw.t rfl (T.bs 5 [vI h] (cs := [vI h]) rfl rfl (bsv rfl)) ?_)))
     rintro _ _ ⟨cu, cv, rfl, rfl, av, b3⟩
     obtain ⟨b4, b5, hm⟩ := ob hm
     refine Lw.t rfl (T.app1S (α := Int) (K' := []) (O.up av) b3 (rdI _) rfl rfl b5) ?_
     rintro aw _ ⟨b6, rfl, b7, b8⟩
     exact Nv aw rfl ((ag) ⟨b4, aw, b6, rfl, (av.j b7).w, rfl, b8, hm⟩)
    ·exact sk ((ag) ⟨F, b, i, rfl, Le.refl _ _, rfl, O, hm⟩)
  ·refine Cw.exit ?_
   rw [bu] at hm
   refine sr (mv b rfl (Nv b rfl ?_))
   cases hm
   exact Cw.ret (ret1 rfl (Res.mk bv ⟨b, rfl, O.s.sub rfl rfl⟩))
theorem p43 {x0 b d x1 k0 r} (f : Rd W K [b, d] x0) (hm : Vm.spec_l8All x0 x1 = some r) : Q1 43 [.agg [b, d].toArray, vI x1] W [] fun W' v => ∃ a, v = a ∧ Ow W' k0 [] [a] r :=
 (c43 (f.view _) hm).ad (fk k0) fun _ _ ⟨a, e, h⟩ => ⟨a, e, h.back (fk_LL _)⟩
theorem c42 {x0 a x1 r} (x : Rd W0 [0] [a] x0) (hm : Vm.spec_l8Has x0 x1 = some r) : Q0 42 [a, vI x1] W0 fun Wf v => v = vB r := by
 unfold Vm.spec_l8Has at hm
 refine CallR.of Tryz.func42 rfl rfl rfl rfl (sr (Nb rfl (ssr (Ni rfl (Cw.block ?_)))))
 obtain ⟨y, z, hm⟩ := jn_e hm
 refine Cw.loop 6 17 [4, 5] (fun m l w => ∃ b d e, CW.w e = w ∧ Le [] W0 e ∧ l = [vB b, vI d] ∧ Vm.spec_l8Has_l1 x0 x1 y m b d = some r) _ ⟨false, 0, W0, rfl, Le.refl _ _, rfl, hm⟩ ?_
 rintro (_ | A) _ _ σ ⟨b, d, e, rfl, i, rfl, hm⟩
 ·cases hm
 unfold Vm.spec_l8Has_l1 at hm
 have f := i.o
 refine ssr ?_
 have h := x.ul f
 refine mi rfl (mv a rfl (Lw.ln x0 h rfl (Lw.lt rfl (nl (cn hm (fun hm => ?_) fun hm => ?_)))))
 ·refine sk (Cw.seq (Cw.block (sr (mv a rfl (mi rfl ?_)))))
  obtain ⟨B, k, hm⟩ := ob hm
  refine Lw.r rfl (R.ix (α := Int) h k rfl rfl rfl) (Lw.r rfl (R.ld rfl rfl (h.at_ k).int) (mi rfl (Lw.eq rfl (nl (cn hm (fun hm => ?_) fun hm => ?_)))))
  ·exact sr (Nb rfl (.ret (rt hm f)))
  ·exact sk (rg (mi rfl (Lw.add rfl (Ni rfl ((agm) ⟨b, w64 (d + 1), e, rfl, i, rfl, hm⟩)))))
 ·refine Cw.exit ?_
  rw [z] at hm
  exact sr (Nb rfl (.ret (rt hm f)))
theorem p42 {x0 a x1 r} (b : Rd W K [a] x0) (hm : Vm.spec_l8Has x0 x1 = some r) : Q1 42 [a, vI x1] W [] fun W' v => v = vB r :=
 (c42 (b.view _) hm).ad (fk 0) fun _ _ e => e
theorem c80 {x0 V W x1 x2 r} (h0 : Rd W0 [0] [V, W] x0) (hm : Vm.spec_l8Bases x0 x1 x2 = some r) : Q0 80 [.agg [V, W].toArray, vI x1, vI x2] W0 fun Wf v => ∃ u0, v = u0 ∧ OwS Wf LL [] [u0] r := by
 unfold Vm.spec_l8Bases at hm
 obtain ⟨c3, c4, ar, X, Y⟩ := Repo.split h0
 simp only [List.cons.injEq, and_true, true_and] at ar
 obtain ⟨rfl, rfl⟩ := ar
 refine CallR.of Tryz.func80 rfl rfl rfl rfl (sr (bo 2 rfl fun g1 W1 l1 Z => ?_))
 have a2 := l1.o
 refine Nv (.slice none 0 0) rfl (sr (la Z (mi rfl (cr hm (fun _ => p43 (k0 := 3) (Repo.rd (K := [0]) x0.Commits x0.Heads (X.ul a2) (Y.ul a2))) ?_))))
 rintro z5 H W7 hm l7 ⟨_, rfl, bn⟩
 have a8 := a2.n l7
 refine Nv H rfl (sr (la (Z.up l7) (mi rfl (cr hm (fun _ => p43 (k0 := 4) (Repo.rd (K := [0]) x0.Commits x0.Heads (X.ul a8) (Y.ul a8))) ?_))))
 rintro bp av c8 hm af ⟨_, rfl, bq⟩
 have br := a8.n af
 refine Nv av rfl (sr (Lw.t rfl (T.lit0 (α := Int) 5 []) ?_))
 rintro aw _ ⟨ax, rfl, I, bu⟩
 have bv := br.n I
 refine Nv aw rfl (ssr (Ni rfl (Cw.block ?_)))
 obtain ⟨bw, bz, hm⟩ := jn_e hm
 refine Cw.loop 22 40 [9, 10] (fun m l w => ∃ h J e B, CW.w B = w ∧ Le [5] ax B ∧ l = [e, vI J] ∧ Ow B 5 [] [e] h ∧ Vm.spec_l8Bases_l1 z5 bp bw m h J = some r) _ ⟨([] : List Int), 0, aw, ax, rfl, Le.refl _ _, rfl, bu, hm⟩ ?_
 rintro (_ | c9) _ _ σ ⟨h, J, e, B, rfl, C, rfl, ah, hm⟩
 ·cases hm
 unfold Vm.spec_l8Bases_l1 at hm
 have b0 := bv.t C
 have D := ((bn.up af).up I).up C
 refine ssr (mi rfl (mv H rfl (Lw.ln z5 D.rd rfl (Lw.lt rfl (nl (cn hm (fun hm => ?_) fun hm => ?_))))))
 ·refine sk ?_
  obtain ⟨b2, b3, hm⟩ := jn_e hm
  refine Cw.join 28 40 [9] (fun l w => ∃ L M E, CW.w E = w ∧ Le [5] B E ∧ l = [M] ∧ Ow E 5 [] [M] L ∧ b2 L = some r) ?_ ?_
  ·rintro _ _ σ ⟨L, M, E, rfl, b4, rfl, b5, hm⟩
   rw [b3] at hm
   exact rg (mi rfl (Lw.add rfl (Ni rfl ((agm) ⟨L, w64 (J + 1), M, E, rfl, (C.j b4).w, rfl, b5, hm⟩))))
  ·refine Cw.block (sr (mv av rfl (mv H rfl (mi rfl ?_))))
   obtain ⟨da, ay, hm⟩ := ob hm
   refine Lw.r rfl (R.ix (α := Int) D.rd ay rfl rfl rfl) (Lw.r rfl (R.ld rfl rfl (D.rd.at_ ay).int) (ca hm (fun _ => p42 (K := [4]) ((bq.up I).up C).rd) fun db b6 hm y => nl (cn hm (fun hm => ?_) fun hm => ?_)))
   ·refine rg (mv e rfl (mv H rfl (mi rfl ?_)))
    obtain ⟨az, a0, hm⟩ := ob hm
    refine Lw.r rfl (R.ix (α := Int) (D.up y).rd a0 rfl rfl rfl) (Lw.r rfl (R.ld rfl rfl ((D.up y).rd.at_ a0).int) (Lw.t rfl (T.bs 6 [vI az] (cs := [vI az]) rfl rfl (bsv rfl)) ?_))
    rintro _ _ ⟨dc, dd, rfl, rfl, a1, b7⟩
    obtain ⟨b8, b9, hm⟩ := ob hm
    refine Lw.t rfl (T.app1S (α := Int) (K' := []) ((ah.up y).up a1) b7 (rdI _) rfl rfl b9) ?_
    rintro a3 _ ⟨cb, rfl, cc, cd⟩
    exact Nv a3 rfl ((ag) ⟨b8, a3, cb, rfl, ((y.j a1).j cc).w, rfl, cd, hm⟩)
   ·exact sk ((ag) ⟨h, e, b6, rfl, y.w, rfl, (ah.up y), hm⟩)
 ·refine Cw.exit ?_
  rw [bz] at hm
  refine sr (Lw.t rfl (T.lit0 (α := Int) 7 []) ?_)
  rintro a4 _ ⟨a5, rfl, ai, ce⟩
  have cf := b0.n ai
  refine Nv a4 rfl (ssr (Ni rfl (Cw.block ?_)))
  obtain ⟨cg, ch, hm⟩ := jn_e hm
  refine Cw.loop 42 81 [11, 12, 13, 14] (fun m l w => ∃ N i k a6 a7 x, CW.w x = w ∧ Le [7] a5 x ∧ l = [k, vI i, a6, a7] ∧ Ow x 7 [] [k] N ∧ Vm.spec_l8Bases_l2 x0 h cg m N i = some r) _ ⟨([] : List Int), 0, a4, undef, undef, a5, rfl, Le.refl _ _, rfl, ce, hm⟩ ?_
  rintro (_ | de) _ _ σ ⟨N, i, k, a6, a7, x, rfl, O, rfl, aj, hm⟩
  ·cases hm
  unfold Vm.spec_l8Bases_l2 at hm
  have a9 := cf.t O
  have ba := (ah.up ai).up O
  refine ssr (mi rfl (mv e rfl (Lw.ln h ba.rd rfl (Lw.lt rfl (nl (cn hm (fun hm => ?_) fun hm => ?_))))))
  ·refine sk ?_
   obtain ⟨ci, cj, hm⟩ := jn_e hm
   refine Cw.join 48 81 [11, 13, 14] (fun l w => ∃ P Q ak am F, CW.w F = w ∧ Le [7] x F ∧ l = [Q, ak, am] ∧ Ow F 7 [] [Q] P ∧ ci P = some r) ?_ ?_
   ·rintro _ _ σ ⟨P, Q, ak, am, F, rfl, ck, rfl, cl, hm⟩
    rw [cj] at hm
    exact rg (mi rfl (Lw.add rfl (Ni rfl ((agm) ⟨P, w64 (i + 1), Q, ak, am, F, rfl, (O.j ck).w, rfl, cl, hm⟩))))
   ·refine Cw.block (sr (Nb rfl (ssr (Ni rfl (Cw.block ?_)))))
    obtain ⟨cm, co, hm⟩ := jn_e hm
    refine Cw.loop 48 73 [13, 14] (fun m l w => ∃ G d S, CW.w S = w ∧ Le [] x S ∧ l = [vB G, vI d] ∧ Vm.spec_l8Bases_l3 x0 h i cm m G d = some r) _ ⟨true, 0, x, rfl, Le.refl _ _, rfl, hm⟩ ?_
    rintro (_ | df) _ _ σ ⟨G, d, S, rfl, f, rfl, hm⟩
    ·cases hm
    unfold Vm.spec_l8Bases_l3 at hm
    have cp := a9.n f
    have U := ba.up f
    refine ssr (mi rfl (mv e rfl (Lw.ln h U.rd rfl (Lw.lt rfl (nl (cn hm (fun hm => ?_) fun hm => ?_))))))
    ·refine sk (Cw.seq (Cw.block (Cw.draw [] [(0, 0), (1, 0), (2, 0), (3, 0), (4, 0), (5, 0), (6, 1), (7, 0), (8, 0), (9, 0), (10, 1), (12, 0), (13, 0), (14, 0), (15, 1), (11, 2), (16, 2), (17, 0), (18, 0), (19, 0), (20, 0)] mixed (by kernel_rfl) fun bb z => ?_)))
     have bc := cp.n z
     have A := U.up z
     refine Db rfl (Db rfl (bs hm (fun b hm => ?_) fun b hm => ?_))
     ·refine Wp b rfl (fun _ => R.mv (v := vI d) rfl) (Wp b rfl (fun _ => R.mv (v := vI i) rfl) (Wp b rfl (fun _ => R.eq rfl rfl) (Wp b rfl (fun _ => R.mv (v := vB ((d : Int) == (i : Int))) rfl) (bs hm (fun a hm => ?_) fun a hm => ?_))))
      ·exact dps 12 a rfl (Wp b rfl (fun _ => R.pk a rfl (v := vB true) rfl) (Mw.p rfl rfl (fun _ => R.pk b rfl (v := vB true) rfl) (Hb rfl (Mw.nil (rg (mi rfl (Lw.add rfl (Ni rfl ((agm) ⟨true, w64 (d + 1), bb, rfl, (f.j z).w, rfl, hm⟩)))))))))
      ·refine Wq a rfl (fun _ c => R.lda (cs := [V, W]) (((((((((Z.up l7).up af).up I).up C).up ai).up O).up f).up z).clcs rfl c) rfl rfl) (Wp a rfl (fun _ => R.mv (v := e) rfl) (Wp a rfl (fun _ => R.mv (v := vI d) rfl) ?_))
       obtain ⟨dg, an, hm⟩ := ob hm
       refine Wp a rfl (fun _ => R.ix (α := Int) A.rd an rfl rfl rfl) (Wq a rfl (fun _ c => R.ld rfl rfl (cl_cell (A.rd.at_ an).1 rfl (A.rd.at_ an).int c)) (Wp a rfl (fun _ => R.mv (v := e) rfl) (Wp a rfl (fun _ => R.mv (v := vI i) rfl) ?_)))
       obtain ⟨dh, ao, hm⟩ := ob hm
       refine Wp a rfl (fun _ => R.ix (α := Int) A.rd ao rfl rfl rfl) (Wq a rfl (fun _ c => R.ld rfl rfl (cl_cell (A.rd.at_ ao).1 rfl (A.rd.at_ ao).int c)) ?_)
       obtain ⟨di, cq, hm⟩ := ob hm
       refine Wt a rfl (T.call rfl (p43 (k0 := 8) (Repo.rd (K := [0]) x0.Commits x0.Heads (X.ul bc) (Y.ul bc)) cq)) ?_
       rintro dj _ ⟨dk, rfl, be, ⟨_, rfl, ct⟩⟩
       refine m0 be fun cu => ?_
       obtain ⟨ap, cv, hm⟩ := ob hm
       refine Wt a rfl (T.call rfl (p42 (K := [8])  ct.rd cv)) ?_
       rintro _ _ ⟨cw, rfl, bg, rfl⟩
       exact mc cu bg fun dl => Wp a rfl (fun _ => R.not rfl) (Wp b rfl (fun _ => R.pk a rfl (v := vB (!ap)) rfl) (Mw.p rfl rfl (fun _ => R.pk b rfl (v := vB (!ap)) rfl) (Hb rfl (Mw.nil (rg (mi rfl (Lw.add rfl (Ni rfl ((agm) ⟨(!ap), w64 (d + 1), cw, rfl, (((f.j z).j be).j bg).w, rfl, hm⟩)))))))))
     ·exact dps 4 b rfl (dpu 12 rfl (dps 1 b rfl (Mw.p rfl rfl (fun _ => R.pk b rfl (v := vB false) rfl) (Hb rfl (Mw.nil (rg (mi rfl (Lw.add rfl (Ni rfl ((agm) ⟨false, w64 (d + 1), bb, rfl, (f.j z).w, rfl, hm⟩))))))))))
    ·refine Cw.exit ?_
     rw [co] at hm
     refine sr (mb rfl (nl (cn hm (fun hm => ?_) fun hm => ?_)))
     ·refine rg (mv k rfl (mv e rfl (mi rfl ?_)))
      obtain ⟨bh, bi, hm⟩ := ob hm
      refine Lw.r rfl (R.ix (α := Int) U.rd bi rfl rfl rfl) (Lw.r rfl (R.ld rfl rfl (U.rd.at_ bi).int) (Lw.t rfl (T.bs 9 [vI bh] (cs := [vI bh]) rfl rfl (bsv rfl)) ?_))
      rintro _ _ ⟨dm, dn, rfl, rfl, bj, cx⟩
      obtain ⟨cy, cz, hm⟩ := ob hm
      refine Lw.t rfl (T.app1S (α := Int) (K' := []) ((aj.up f).up bj) cx (rdI _) rfl rfl cz) ?_
      rintro bk _ ⟨c0, rfl, c1, c2⟩
      exact Nv bk rfl ((ag) ⟨cy, bk, vB G, vI d, c0, rfl, ((f.j bj).j c1).w, rfl, c2, hm⟩)
     ·exact sk ((ag) ⟨N, k, vB G, vI d, S, rfl, f.w, rfl, (aj.up f), hm⟩)
  ·refine Cw.exit ?_
   rw [ch] at hm
   refine sr (mv k rfl (Nv k rfl ?_))
   cases hm
   exact Cw.ret (ret1 rfl (Res.mk a9 ⟨k, rfl, aj.s.sub rfl rfl⟩))
theorem p80 {x0 b d x1 x2 k0 r} (f : Rd W K [b, d] x0) (hm : Vm.spec_l8Bases x0 x1 x2 = some r) : Q1 80 [.agg [b, d].toArray, vI x1, vI x2] W [] fun W' v => ∃ a, v = a ∧ Ow W' k0 [] [a] r :=
 (c80 (f.view _) hm).ad (fk k0) fun _ _ ⟨a, e, h⟩ => ⟨a, e, h.back (fk_LL _)⟩
theorem c46 {x0 k x x1 x2 r} (I : Rd W0 [0] [k, x] x0) (hm : Vm.spec_l9Base x0 x1 x2 = some r) : Q0 46 [.agg [k, x].toArray, vI x1, vI x2] W0 fun Wf v => ∃ y, v = y ∧ Rd Wf [0] [y] r := by
 unfold Vm.spec_l9Base at hm
 obtain ⟨M, N, z, A, J⟩ := Repo.split I
 simp only [List.cons.injEq, and_true, true_and] at z
 obtain ⟨rfl, rfl⟩ := z
 refine CallR.of Tryz.func46 rfl rfl rfl rfl (sr (bo 2 rfl fun O P L B => ?_))
 have d := L.o
 refine Nv (.slice none 0 0) rfl (sr (la B (mi rfl (mi rfl (cr hm (fun _ => p80 (k0 := 3) (Repo.rd (K := [0]) x0.Commits x0.Heads (A.ul d) (J.ul d))) ?_)))))
 rintro C a Q hm D ⟨_, rfl, E⟩
 have F := d.n D
 refine Nv a rfl (ssr (mv a rfl (Lw.ln C E.rd rfl (Lw.eq rfl (nl (cn hm (fun hm => ?_) fun hm => ?_))))))
 ·refine sr (Nv (.slice none 0 0) rfl ?_)
  cases hm
  exact Cw.ret (ret1 rfl (Res.mk F ⟨.slice none 0 0, rfl, (rdN (K := [0]))⟩))
 ·refine sk (Cw.seq (Cw.draw [] [(0, 0), (1, 1), (2, 0), (3, 0), (4, 0), (5, 0), (6, 0), (7, 1), (8, 0), (9, 0), (10, 1), (11, 0)] mixed (by kernel_rfl) fun S e => ?_))
  have G := F.n e
  have b := E.up e
  refine Dfl ((B.up D).up e) rfl rfl rfl (Dv a rfl (Dv a rfl (Mw.p rfl rfl (fun _ => lenR (xs := C) b.rd rfl) (Mw.p rfl rfl (fun _ => R.sub rfl rfl) ?_))))
  obtain ⟨T, f, hm⟩ := ob hm
  refine Mw.p rfl rfl (fun _ => R.ix (α := Int) b.rd f rfl rfl rfl) (Mw.q rfl rfl (fun _ c => R.ld rfl rfl (cl_cell (b.rd.at_ f).1 rfl (b.rd.at_ f).int c)) ?_)
  obtain ⟨U, h, hm⟩ := ob hm
  have i := A.ul G
  refine Mw.p rfl rfl (fun _ => R.ix (α := Commit) i h rfl rfl rfl) (Df rfl ?_)
  obtain ⟨H, c21, r22⟩ := (Commit.at2 (i.at_ h)).cell rfl
  refine Mw.q rfl rfl (fun _ c => R.ld rfl rfl (cl_cell (Commit.at2 (i.at_ h)).1 rfl c21 c)) (Hv H rfl (Mw.nil ?_))
  cases hm
  exact Cw.ret (ret1 rfl (Res.mk G ⟨H, rfl, r22⟩))
theorem p46 {x0 b d x1 x2 r} (f : Rd W K [b, d] x0) (hm : Vm.spec_l9Base x0 x1 x2 = some r) : Q1 46 [.agg [b, d].toArray, vI x1, vI x2] W [] fun W' v => ∃ a, v = a ∧ Rd W' (0 :: K) [a] r :=
 (c46 (f.view _) hm).ad (fk 0) fun _ _ ⟨a, e, h⟩ => ⟨a, e, h.back rfl⟩
theorem c24 {x0 k x x1 x2 x3 r} (h0 : Rd W0 [0] [k, x] x0) (hm : Vm.spec_l9Unite x0 x1 x2 x3 = some r) : Q0 24 [.agg [k, x].toArray, vS x1, vS x2, vI x3] W0 fun Wf v => ∃ a0 a1, v = .tuple [.agg [a0, a1].toArray, vI r.2].toArray ∧ Rd Wf [0] [a0] r.1.Commits ∧ Rd Wf [0] [a1] r.1.Heads := by
 unfold Vm.spec_l9Unite at hm
 obtain ⟨c9, da, a3, a, b⟩ := Repo.split h0
 simp only [List.cons.injEq, and_true, true_and] at a3
 obtain ⟨rfl, rfl⟩ := a3
 refine CallR.of Tryz.func24 rfl rfl rfl rfl (sr (bo 2 rfl fun g1 W1 l1 b1 => ?_))
 have a2 := l1.o
 refine al 3 [.slice none 0 0, .slice none 0 0] fun g3 W3 O b3 => ?_
 have P := a2.n O
 refine Ni rfl (sr (la (b1.up O) (ms rfl (ca hm (fun _ => p20 (Repo.rd (K := [0]) x0.Commits x0.Heads (a.ul P) (b.ul P))) fun A df hm l10 => ?_))))
 have Q := P.n l10
 have a6 := (b1.up O).up l10
 refine Ni rfl (ssr (la a6 (mi rfl (cr hm (fun _ => p43 (k0 := 4) (Repo.rd (K := [0]) x0.Commits x0.Heads (a.ul Q) (b.ul Q))) ?_))))
 rintro dg dh di hm S ⟨_, rfl, bq⟩
 have br := Q.n S
 refine mi rfl (ca hm (fun _ => p42 (K := [4]) bq.rd) fun dj dk hm U => ?_)
 have D := br.n U
 have V := (a6.up S).up U
 have a7 := ((b3.up l10).up S).up U
 refine nl (cn hm (fun hm => ?_) fun hm => ?_)
 ·refine sr (la V (sta a7 (oc_cons a.oc (oc_cons b.oc oc_nil)) fun dl bu bv => ?_))
  have X := D.t bu
  refine Ni rfl ?_
  cases hm
  exact Cw.ret (retA2 rfl bv rfl (Res.mk X ⟨k, x, rfl, (a.ul X), (b.ul X)⟩))
 ·refine sk (ssr (la V (mi rfl (cr hm (fun _ => p43 (k0 := 5) (Repo.rd (K := [0]) x0.Commits x0.Heads (a.ul D) (b.ul D))) ?_))))
  rintro dm dn dp hm Y ⟨_, rfl, bw⟩
  have bz := D.n Y
  refine mi rfl (ca hm (fun _ => p42 (K := [5]) bw.rd) fun dq dr hm Z => ?_)
  have E := bz.n Z
  have a8 := (V.up Y).up Z
  have a9 := (a7.up Y).up Z
  refine nl (cn hm (fun hm => ?_) fun hm => ?_)
  ·refine sr (la a8 (ms rfl (mi rfl (cr hm (fun _ => p44 (Repo.rd (K := [0]) x0.Commits x0.Heads (a.ul E) (b.ul E))) ?_))))
   rintro ds _ dt hm ba ⟨b0, b2, rfl, b4, b5⟩
   have bb := b4.sub (M := [0]) rfl
   have bc := b5.sub (M := [0]) rfl
   have b6 := E.n ba
   refine sta (a9.up ba) (oc_cons bb.oc (oc_cons bc.oc oc_nil)) fun du b7 b8 => ?_
   have aa := b7.s
   refine Ni rfl ?_
   cases hm
   exact Cw.ret (retA2 rfl b8 rfl (Res.mk (b6.trans aa) ⟨b0, b2, rfl, (bb.ul aa), (bc.ul aa)⟩))
  ·refine sk (Cw.seq (Cw.draw [] [(0, 1), (1, 0), (2, 0), (4, 0), (5, 1), (6, 0), (7, 0), (8, 0), (9, 1), (10, 0), (11, 1), (12, 0), (13, 0), (14, 0), (15, 1), (3, 2), (16, 2), (17, 0), (18, 0), (19, 0), (20, 0), (21, 0)] mixed (by kernel_rfl) fun dv ac => ?_))
   have ae := E.n ac
   have F := a8.up ac
   refine Mw.q rfl rfl (fun _ c => R.lda (cs := [k, x]) (F.clcs rfl c) rfl rfl) (Di rfl (Di rfl (Dfl F rfl rfl rfl (Di rfl ?_))))
   obtain ⟨dw, af, hm⟩ := ob hm
   have i := a.ul ae
   refine Mw.p rfl rfl (fun _ => R.ix (α := Commit) i af rfl rfl rfl) (Df rfl ?_)
   obtain ⟨dx, c83, r84⟩ := (Commit.at2 (i.at_ af)).cell rfl
   refine Mw.q rfl rfl (fun _ c => R.ld rfl rfl (cl_cell (Commit.at2 (i.at_ af)).1 rfl c83 c)) (Dfl F rfl rfl rfl (Di rfl ?_))
   obtain ⟨dy, ah, hm⟩ := ob hm
   refine Mw.p rfl rfl (fun _ => R.ix (α := Commit) i ah rfl rfl rfl) (Df rfl ?_)
   obtain ⟨dz, c88, r89⟩ := (Commit.at2 (i.at_ ah)).cell rfl
   refine Mw.q rfl rfl (fun _ c => R.ld rfl rfl (cl_cell (Commit.at2 (i.at_ ah)).1 rfl c88 c)) ?_
   obtain ⟨d0, b9, hm⟩ := ob hm
   refine Mw.t rfl rfl (T.call rfl (p46  (Repo.rd (K := [0]) x0.Commits x0.Heads i (b.ul ae)) b9)) ?_
   rintro d1 _ ⟨d2, rfl, G, ⟨_, rfl, cb⟩⟩
   have cc := cb.sub (M := [0]) rfl
   have ai := G.o
   refine m0 G fun cd => ?_
   obtain ⟨H, ce, hm⟩ := ob hm
   refine Mw.t rfl rfl (T.call rfl (p45 (k0 := 6) (k1 := 7) cc (r84.ul ai) (r89.ul ai) ce)) ?_
   rintro _ _ ⟨cf, rfl, I, ⟨d, y, rfl, cg, ch⟩⟩
   have be := (ae.trans ai).n I
   have aj := (F.up G).up I
   have bg := ((a9.up ac).up G).up I
   refine mc cd I fun d3 => Dv (.tuple [d, y].toArray) rfl (Mw.p rfl rfl (fun _ => R.ext (vs := [d, y]) (v := d) rfl rfl) (Mw.p rfl rfl (fun _ => R.ext (vs := [d, y]) (v := y) rfl rfl) (Hv d rfl (Hv y rfl (Mw.nil (ssr (mv y rfl (Lw.ln H.2 ch.rd rfl (Lw.gt rfl (nl (cn hm (fun hm => ?_) fun hm => ?_)))))))))))
   ·refine sr (la aj (sta bg (oc_cons a.oc (oc_cons b.oc oc_nil)) fun d4 ci cj => ?_))
    have ak := be.t ci
    refine Ni rfl ?_
    cases hm
    exact Cw.ret (retA2 rfl cj rfl (Res.mk ak ⟨k, x, rfl, (a.ul ak), (b.ul ak)⟩))
   ·refine sk (sr (la aj (ms rfl (mi rfl (mi rfl (Lw.t rfl (T.bsS (α := Int) (xs := [A, x3]) 8 [] (W := cf) [vI A, vI x3] (Each.cons ((rdI _)) (Each.cons ((rdI _)) Each.nil)) rfl) ?_))))))
    rintro am _ ⟨d5, rfl, J, an⟩
    have ao := be.n J
    have ap := cg.up J
    refine ms rfl (mv d rfl (Lw.r rfl (R.bd (zs := [.slice none 0 0, vS ([] : Str), .slice none 0 0]) (cs := [am, vS x2, d]) [(0, am), (1, vS x2), (2, d)] rfl rfl rfl (bp_cons an.oc rfl (bp_cons rfl rfl (bp_cons ap.oc rfl bp_nil)))) (cr hm (fun _ => p47 (K := [0, 6, 8]) (x2 := (Vm.Commit.mk ([A, x3] : List Int) x2 H.1)) ((Repo.rd (K := [0]) x0.Commits x0.Heads (a.ul ao) (b.ul ao)).sub (M := [0, 6, 8]) rfl) ((Commit.rd (K := [6, 8]) ([A, x3] : List Int) x2 H.1 (an.rd.sub (M := [6, 8]) rfl) (ap.rd.sub (M := [6, 8]) rfl)).sub (M := [0, 6, 8]) rfl)) ?_)))
    rintro z _ d6 hm B ⟨aq, ar, rfl, ck, cl⟩
    have L := ck.sub (M := [0, 6, 8]) rfl
    have N := cl.sub (M := [0, 6, 8]) rfl
    have cm := ao.n B
    refine al 9 [.slice none 0 0, .slice none 0 0] fun d7 d8 e co => ?_
    have cp := cm.n e
    refine sta co (oc_cons L.oc (oc_cons N.oc oc_nil)) fun d9 f bh => ?_
    have cq := cp.t f
    refine nl (ssr (la bh ?_))
    have ct := L.up ((e.sub (M := [9]) rfl).trans (f.sub (M := [9]) rfl)) rfl
    have cu := N.up ((e.sub (M := [9]) rfl).trans (f.sub (M := [9]) rfl)) rfl
    refine ca hm (fun _ => p19 (K := [0, 6, 8]) (Repo.rd (K := [0, 6, 8]) z.Commits z.Heads ct cu)) fun ea eb hm h => ?_
    have bi := cq.n h
    have bj := ((((bg.up J).up B).up e).up f).up h
    refine Lw.r rfl (R.not rfl) (nl (cn hm (fun hm => ?_) fun hm => ?_))
    ·refine sr (la (((((aj.up J).up B).up e).up f).up h) (sta bj (oc_cons a.oc (oc_cons b.oc oc_nil)) fun ec cv cw => ?_))
     have au := bi.t cv
     refine Ni rfl ?_
     cases hm
     exact Cw.ret (retA2 rfl cw rfl (Res.mk au ⟨k, x, rfl, (a.ul au), (b.ul au)⟩))
    ·refine sk (sr (la (bh.up h) (sta bj (oc_cons L.oc (oc_cons N.oc oc_nil)) fun ed C cx => ?_)))
     have cy := bi.t C
     refine Ni rfl ?_
     have cz := L.up ((e.sub (M := [3, 9]) rfl).trans ((f.sub (M := [3, 9]) rfl).trans ((h.sub (M := [3, 9]) rfl).trans (C.sub (M := [3, 9]) rfl)))) rfl
     have c0 := N.up ((e.sub (M := [3, 9]) rfl).trans ((f.sub (M := [3, 9]) rfl).trans ((h.sub (M := [3, 9]) rfl).trans (C.sub (M := [3, 9]) rfl)))) rfl
     obtain ⟨av, c1, aw, ax⟩ := dyeE _ 6
     have c2 : Rd av [0, 8] [aq] z.Commits := by rw [ax]; exact (cz.dye 6).sub (M := [0, 8]) rfl
     have c3 : Rd av [0, 8] [ar] z.Heads := by rw [ax]; exact (c0.dye 6).sub (M := [0, 8]) rfl
     have ee : Rd (α := List Vm.File) av [0] [d] H.1 := by rw [ax]; exact ((((((ap.up B).up e).up f).up h).up C).rd.dye 6).sub (M := [0]) rfl
     have c4 := cy.t aw
     obtain ⟨ay, c5, bk, az⟩ := dyeE _ 8
     have c6 : Rd ay [0] [aq] z.Commits := by rw [az]; exact (c2.dye 8).sub (M := [0]) rfl
     have c7 : Rd ay [0] [ar] z.Heads := by rw [az]; exact (c3.dye 8).sub (M := [0]) rfl
     have ef : Rd (α := List Int) ay [0] [am] ([A, x3] : List Int) := by rw [az]; exact (((((((an.up B).up e).up f).up h).up C).up aw).rd.dye 8).sub (M := [0]) rfl
     have c8 := c4.t bk
     cases hm
     rw [← c5.trans (c1)]
     exact Cw.ret (retA2 rfl ((cx.up aw).up bk) rfl (Res.mk c8 ⟨aq, ar, rfl, c6, c7⟩))
theorem p24 {x0 d f x1 x2 x3 r} (h : Rd W K [d, f] x0) (hm : Vm.spec_l9Unite x0 x1 x2 x3 = some r) : Q1 24 [.agg [d, f].toArray, vS x1, vS x2, vI x3] W [] fun W' v => ∃ a b, v = .tuple [.agg [a, b].toArray, vI r.2].toArray ∧ Rd W' (0 :: K) [a] r.1.Commits ∧ Rd W' (0 :: K) [b] r.1.Heads :=
 (c24 (h.view _) hm).ad (fk 0) fun _ _ ⟨a, b, e, i, k⟩ => ⟨a, b, e, i.back rfl, k.back rfl⟩
theorem c7 {x0 T U x1 x2 x3 r} (h0 : Rd W0 [0] [T, U] x0) (hm : Vm.spec_UniteInto x0 x1 x2 x3 = some r) : Q0 7 [.agg [T, U].toArray, vS x1, vS x2, vI x3] W0 fun Wf v => ∃ V W, v = .tuple [.agg [V, W].toArray, vI r.2].toArray ∧ Rd Wf [0] [V] r.1.Commits ∧ Rd Wf [0] [W] r.1.Heads := by
 unfold Vm.spec_UniteInto at hm
 obtain ⟨ch, ci, X, h, A⟩ := Repo.split h0
 simp only [List.cons.injEq, and_true, true_and] at X
 obtain ⟨rfl, rfl⟩ := X
 refine CallR.of Tryz.func7 rfl rfl rfl rfl (sr (bo 2 rfl fun g1 W1 l1 Y => ?_))
 have a2 := l1.o
 refine al 3 [.slice none 0 0, .slice none 0 0] fun g3 W3 F Z => ?_
 have G := a2.n F
 refine Ni rfl (ssr (la (Y.up F) (ca hm (fun _ => p19 (Repo.rd (K := [0]) x0.Commits x0.Heads (h.ul G) (A.ul G))) fun z8 ay hm l10 => ?_)))
 have i := G.n l10
 have B := (Y.up F).up l10
 refine Lw.r rfl (R.not rfl) (nl (cn hm (fun hm => ?_) fun hm => ?_))
 ·refine sr (Lw.r rfl (R.bd (zs := [.slice none 0 0, .slice none 0 0]) (cs := [.slice none 0 0, .slice none 0 0]) [] rfl rfl rfl bp_nil) (sta (Z.up l10) (oc_cons rfl (oc_cons rfl oc_nil)) fun cp az a0 => ?_))
  have a1 := i.t az
  refine Ni rfl ?_
  cases hm
  exact Cw.ret (retA2 rfl a0 rfl (Res.mk a1 ⟨.slice none 0 0, .slice none 0 0, rfl, (rdN (K := [0])), (rdN (K := [0]))⟩))
 ·refine sk (Cw.seq ?_)
  obtain ⟨a3, a5, hm⟩ := jn_e hm
  refine Cw.join 14 31 [31] (fun l w => ∃ H I, CW.w I = w ∧ Le [] ay I ∧ l = [vB H] ∧ a3 H = some r) ?_ ?_
  ·rintro _ _ σ ⟨H, I, rfl, C, rfl, hm⟩
   rw [a5] at hm
   have b := i.n C
   have aa := (Z.up l10).up C
   refine cn hm (fun hm => ?_) fun hm => ?_
   ·refine sr (la (B.up C) (cr hm (fun _ => p23 (k0 := 4) (k1 := 5) (Repo.rd (K := [0]) x0.Commits x0.Heads (h.ul b) (A.ul b))) ?_))
    rintro ac _ cq hm ae ⟨af, ah, rfl, ai, aj⟩
    have a6 := b.n ae
    refine sta (aa.up ae) (oc_cons ai.oc (oc_cons aj.oc oc_nil)) fun ct J a7 => ?_
    have a8 := a6.t J
    refine Ni rfl ?_
    obtain ⟨a9, ba, L, bb⟩ := dyeE _ 4
    have bc : Rd (α := List Vm.Commit) a9 [0] [af] ac.Commits := by rw [bb]; exact ((ai.up J).rd.dye 4).sub (M := [0]) rfl
    have be := a8.t L
    obtain ⟨bg, bh, ak, bi⟩ := dyeE _ 5
    have bj : Rd (α := List Vm.Head) bg [0] [ah] ac.Heads := by rw [bi]; exact (((aj.up J).up L).rd.dye 5).sub (M := [0]) rfl
    have am := ak.s
    cases hm
    rw [← bh.trans (ba)]
    exact Cw.ret (retA2 rfl ((a7.up L).up ak) rfl (Res.mk (be.trans am) ⟨af, ah, rfl, (bc.ul am), bj⟩))
   ·refine sk (sr (la (B.up C) (cr hm (fun _ => p23 (k0 := 6) (k1 := 7) (Repo.rd (K := [0]) x0.Commits x0.Heads (h.ul b) (A.ul b))) ?_)))
    rintro d _ cu hm an ⟨bk, bl, rfl, ao, ap⟩
    have bm := b.n an
    refine ms rfl (ms rfl (mi rfl (cr hm (fun _ => p24 (K := [6, 7]) (x0 := (Vm.Repo.mk d.Commits d.Heads)) (Repo.rd (K := [6, 7]) d.Commits d.Heads (ao.rd.sub (M := [6, 7]) rfl) (ap.rd.sub (M := [6, 7]) rfl))) ?_)))
    rintro a _ cv hm D ⟨e, f, rfl, bn, bp⟩
    have aq := bn.sub (M := [0, 6, 7]) rfl
    have ar := bp.sub (M := [0, 6, 7]) rfl
    have bq := bm.n D
    refine Lw.r rfl (R.ext (vs := [.agg [e, f].toArray, vI a.2]) (v := .agg [e, f].toArray) rfl rfl) (Lw.r rfl (R.ext (vs := [.agg [e, f].toArray, vI a.2]) (v := vI a.2) rfl rfl) (sta ((aa.up an).up D) (oc_cons aq.oc (oc_cons ar.oc oc_nil)) fun cw k br => ?_))
    have bu := bq.t k
    refine Ni rfl ?_
    have bv := aq.up (k.sub (M := [3]) rfl) rfl
    have bw := ar.up (k.sub (M := [3]) rfl) rfl
    obtain ⟨N, bz, O, P⟩ := dyeE _ 6
    have b0 : Rd N [0, 7] [e] a.1.Commits := by rw [P]; exact (bv.dye 6).sub (M := [0, 7]) rfl
    have b2 : Rd N [0, 7] [f] a.1.Heads := by rw [P]; exact (bw.dye 6).sub (M := [0, 7]) rfl
    have cx : Rd (α := List Vm.Commit) N [0] [bk] d.Commits := by rw [P]; exact (((ao.up D).up k).rd.dye 6).sub (M := [0]) rfl
    have b4 := bu.t O
    obtain ⟨Q, b5, au, S⟩ := dyeE _ 7
    have b6 : Rd Q [0] [e] a.1.Commits := by rw [S]; exact (b0.dye 7).sub (M := [0]) rfl
    have b7 : Rd Q [0] [f] a.1.Heads := by rw [S]; exact (b2.dye 7).sub (M := [0]) rfl
    have cy : Rd (α := List Vm.Head) Q [0] [bl] d.Heads := by rw [S]; exact ((((ap.up D).up k).up O).rd.dye 7).sub (M := [0]) rfl
    have b8 := b4.t au
    cases hm
    rw [← b5.trans (bz)]
    exact Cw.ret (retA2 rfl ((br.up O).up au) rfl (Res.mk b8 ⟨e, f, rfl, b6, b7⟩))
  ·refine rg (la B (ms rfl (ca hm (fun _ => p20 (Repo.rd (K := [0]) x0.Commits x0.Heads (h.ul i) (A.ul i))) fun cz b9 hm x => ?_)))
   have cb := i.n x
   refine Lw.lt rfl (mb rfl (bs hm (fun y hm => ?_) fun y hm => ?_))
   ·exact psk 3 y rfl (Pb y rfl (mb rfl (psk 7 rfl rfl (Pb rfl rfl (nl ((ag) ⟨true, b9, rfl, x, rfl, hm⟩))))))
   ·refine wak 3 y (ms rfl (ca hm (fun _ => p21) fun c0 cc hm E => ?_))
    have cd := cb.n E
    refine Lw.r rfl (R.not rfl) (Pb y rfl (mb rfl (bs hm (fun z hm => ?_) fun z hm => ?_)))
    ·exact psk 7 z rfl (Pb z rfl (nl ((ag) ⟨true, cc, rfl, (x.j E).w, rfl, hm⟩)))
    ·exact wak 7 z (mi rfl (fl ((B.up x).up E) rfl (Lw.ln x0.Commits (h.ul cd) rfl (Lw.sub rfl (ca hm (fun _ => p22) fun ce cf hm cg => Lw.r rfl (R.not rfl) (Pb z rfl (nl ((ag) ⟨(!ce), cf, rfl, ((x.j E).j cg).w, rfl, hm⟩))))))))
theorem p7 {x0 d f x1 x2 x3 r} (h : Rd W K [d, f] x0) (hm : Vm.spec_UniteInto x0 x1 x2 x3 = some r) : Q1 7 [.agg [d, f].toArray, vS x1, vS x2, vI x3] W [] fun W' v => ∃ a b, v = .tuple [.agg [a, b].toArray, vI r.2].toArray ∧ Rd W' (0 :: K) [a] r.1.Commits ∧ Rd W' (0 :: K) [b] r.1.Heads :=
 (c7 (h.view _) hm).ad (fk 0) fun _ _ ⟨a, b, e, i, k⟩ => ⟨a, b, e, i.back rfl, k.back rfl⟩
theorem c57 {x0 H I x1 r} (Z : Rd W0 [0] [H, I] x0) (hm : Vm.impl_Repo_ancestors x0 x1 = some r) : Q0 57 [.agg [H, I].toArray, vI x1] W0 fun Wf v => ∃ J, v = J ∧ OwS Wf LL [] [J] r := by
 unfold Vm.impl_Repo_ancestors at hm
 obtain ⟨a0, a1, K, A, a3⟩ := Repo.split Z
 simp only [List.cons.injEq, and_true, true_and] at K
 obtain ⟨rfl, rfl⟩ := K
 refine CallR.of Tryz.func57 rfl rfl rfl rfl (sr (bo 2 rfl fun g1 W1 l1 L => ?_))
 have M := l1.o
 refine Nv (.slice none 0 0) rfl (sr (fl L rfl (Lw.ln x0.Commits (A.ul M) rfl ?_)))
 obtain ⟨q4, e5, hm⟩ := ob hm
 refine Lw.t rfl (T.mk (α := Bool) 3 [] (n := (x0.Commits.length : Int)) rfl rfl e5) ?_
 rintro a _ ⟨W6, rfl, N, O⟩
 have a7 := M.n N
 refine Nv a rfl (sr (mv a rfl (mi rfl ?_)))
 obtain ⟨u9, af, hm⟩ := ob hm
 refine Lw.r rfl (R.ix (α := Bool) O.rd af rfl rfl rfl) ?_
 obtain ⟨ah, ai, hm⟩ := ob hm
 refine Lw.u (T.stS (K' := []) O (rdB _) ai rfl rfl rfl) ?_
 rintro _ _ ⟨P, rfl, Q, aj⟩
 have ak := a7.t Q
 refine nl (ssr (mi rfl (Ni rfl (Cw.block ?_))))
 obtain ⟨am, an, hm⟩ := jn_e hm
 refine Cw.loop 17 39 [6, 8] (fun m l w => ∃ i d k b, CW.w b = w ∧ Le [3] P b ∧ l = [vI i, k] ∧ Ow b 3 [] [a] d ∧ Vm.impl_Repo_ancestors_l1 x0 am m i d = some r) _ ⟨x1, ah, undef, P, rfl, Le.refl _ _, rfl, aj, hm⟩ ?_
 rintro (_ | ba) _ _ σ ⟨i, d, k, b, rfl, B, rfl, e, hm⟩
 ·cases hm
 unfold Vm.impl_Repo_ancestors_l1 at hm
 have C := ak.t B
 refine ssr (mi rfl (Lw.ge rfl (nl (cn hm (fun hm => ?_) fun hm => ?_))))
 ·refine sk ?_
  obtain ⟨S, ao, hm⟩ := jn_e hm
  refine Cw.join 21 39 [8] (fun l w => ∃ x D f, CW.w f = w ∧ Le [3] b f ∧ l = [D] ∧ Ow f 3 [] [a] x ∧ S x = some r) ?_ ?_
  ·rintro _ _ σ ⟨x, D, f, rfl, ap, rfl, aq, hm⟩
   rw [ao] at hm
   exact rg (mi rfl (Lw.sub rfl (Ni rfl ((agm) ⟨w64 (i - 1), x, D, f, rfl, (B.j ap).w, rfl, aq, hm⟩))))
  ·refine Cw.block (sr (mv a rfl (mi rfl ?_)))
   obtain ⟨bb, U, hm⟩ := ob hm
   refine Lw.r rfl (R.ix (α := Bool) e.rd U rfl rfl rfl) (Lw.r rfl (R.ld rfl rfl (e.rd.at_ U).bool) (nl (cn hm (fun hm => ?_) fun hm => ?_)))
   ·refine sr (fl (((L.up N).up Q).up B) rfl (mi rfl ?_))
    obtain ⟨V, W, hm⟩ := ob hm
    refine Lw.r rfl (R.ix (α := Commit) (A.ul C) W rfl rfl rfl) (Lw.fa rfl ?_)
    obtain ⟨bc, c40, r41⟩ := (Commit.at0 ((A.ul C).at_ W)).cell rfl
    refine Lw.r rfl (R.ld rfl rfl c40) (Lw.ln V.Parents r41 rfl (mi rfl (nl (Cw.block (Cw.loop 32 39 [8, 32] (fun m l w => ∃ y z E h, CW.w h = w ∧ Le [3] b h ∧ l = [E, vI y] ∧ Ow h 3 [] [a] z ∧ Vm.impl_Repo_ancestors_l2 S V m y z = some r) _ ⟨0, d, k, b, rfl, Le.refl _ _, rfl, e, hm⟩ ?_)))))
    rintro (_ | be) _ _ σ ⟨y, z, E, h, rfl, F, rfl, G, hm⟩
    ·cases hm
    unfold Vm.impl_Repo_ancestors_l2 at hm
    have X := F.s
    refine sr (Lw.lt rfl (nl (Cw.seq (cn hm (fun hm => ?_) fun hm => ?_))))
    ·refine sk (Cw.seq (Cw.block (sr ?_)))
     obtain ⟨ar, Y, hm⟩ := ob hm
     refine Lw.r rfl (R.ix (α := Int) (r41.ul X) Y rfl rfl rfl) (Lw.r rfl (R.ld rfl rfl ((r41.ul X).at_ Y).int) (Ni rfl (rg (mv a rfl (mi rfl ?_)))))
     obtain ⟨bg, au, hm⟩ := ob hm
     refine Lw.r rfl (R.ix (α := Bool) G.rd au rfl rfl rfl) ?_
     obtain ⟨av, aw, hm⟩ := ob hm
     refine Lw.u (T.stS (K' := []) G (rdB _) aw rfl rfl rfl) ?_
     rintro _ _ ⟨ax, rfl, ay, az⟩
     exact nl (rg (Lw.add rfl (mi rfl (nl ((agm) ⟨w64 (y + 1), av, vI ar, ax, rfl, (F.j ay).w, rfl, az, hm⟩)))))
    ·exact Cw.exit ((ag) ⟨z, E, h, rfl, F, rfl, G, hm⟩)
   ·exact sk ((ag) ⟨d, k, b, rfl, Le.refl _ _, rfl, e, hm⟩)
 ·refine Cw.exit ?_
  rw [an] at hm
  refine sr (mv a rfl (Nv a rfl ?_))
  cases hm
  exact Cw.ret (ret1 rfl (Res.mk C ⟨a, rfl, e.s.sub rfl rfl⟩))
theorem p57 {x0 b d x1 k0 r} (f : Rd W K [b, d] x0) (hm : Vm.impl_Repo_ancestors x0 x1 = some r) : Q1 57 [.agg [b, d].toArray, vI x1] W [] fun W' v => ∃ a, v = a ∧ Ow W' k0 [] [a] r :=
 (c57 (f.view _) hm).ad (fk k0) fun _ _ ⟨a, e, h⟩ => ⟨a, e, h.back (fk_LL _)⟩
theorem c111 {x0 k r} (x : Rd W0 [0] [k] x0) (hm : Vm.impl_listOf x0 = some r) : Q0 111 [k] W0 fun Wf v => ∃ C, v = C ∧ OwS Wf LL [] [C] r := by
 unfold Vm.impl_listOf at hm
 refine CallR.of Tryz.func111 rfl rfl rfl rfl (sr (Nv (.slice none 0 0) rfl (sr (Nv (.slice none 0 0) rfl (ssr (mv k rfl (Lw.ln x0 x rfl (mi rfl (nl (Cw.block ?_))))))))))
 obtain ⟨K, L, hm⟩ := jn_e hm
 refine Cw.loop 8 18 [3, 4, 5, 8] (fun m l w => ∃ f a b D E d, CW.w d = w ∧ Le [2] W0 d ∧ l = [b, D, E, vI a] ∧ Ow d 2 [] [b] f ∧ Vm.impl_listOf_l1 x0 K m f a = some r) _ ⟨([] : List Int), 0, .slice none 0 0, undef, undef, W0, rfl, Le.refl _ _, rfl, owN 2 [], hm⟩ ?_
 rintro (_ | Y) _ _ σ ⟨f, a, b, D, E, d, rfl, F, rfl, y, hm⟩
 ·cases hm
 unfold Vm.impl_listOf_l1 at hm
 have z := F.s
 refine sr (Lw.lt rfl (nl (Cw.seq (cn hm (fun hm => ?_) fun hm => ?_))))
 ·refine sk ?_
  obtain ⟨M, N, hm⟩ := jn_e hm
  refine Cw.join 10 17 [3, 4, 5] (fun l w => ∃ h i A B e, CW.w e = w ∧ Le [2] d e ∧ l = [i, A, B] ∧ Ow e 2 [] [i] h ∧ M h = some r) ?_ ?_
  ·rintro _ _ σ ⟨h, i, A, B, e, rfl, O, rfl, P, hm⟩
   rw [N] at hm
   exact rg (Lw.add rfl (mi rfl (nl ((agm) ⟨h, w64 (a + 1), i, A, B, e, rfl, (F.j O).w, rfl, P, hm⟩))))
  ·refine Cw.block (sr (mi rfl ?_))
   obtain ⟨G, H, hm⟩ := ob hm
   refine Lw.r rfl (R.ix (α := Bool) (x.ul z) H rfl rfl rfl) (Lw.r rfl (R.ld rfl rfl ((x.ul z).at_ H).bool) (Gi rfl (Nb rfl (sr (mb rfl (nl (cn hm (fun hm => ?_) fun hm => ?_)))))))
   ·refine rg (mv b rfl (mi rfl (Lw.t rfl (T.bs 3 [vI a] (cs := [vI a]) rfl rfl (bsv rfl)) ?_)))
    rintro _ _ ⟨Z, aa, rfl, rfl, I, Q⟩
    obtain ⟨S, U, hm⟩ := ob hm
    refine Lw.t rfl (T.app1S (α := Int) (K' := []) (y.up I) Q (rdI _) rfl rfl U) ?_
    rintro J _ ⟨V, rfl, W, X⟩
    exact Nv J rfl ((ag) ⟨S, J, vI a, vB G, V, rfl, (I.j W).w, rfl, X, hm⟩)
   ·exact sk ((ag) ⟨f, b, vI a, vB G, d, rfl, Le.refl _ _, rfl, y, hm⟩)
 ·refine Cw.exit ?_
  rw [L] at hm
  refine sr (mv b rfl (Nv b rfl ?_))
  cases hm
  exact Cw.ret (ret1 rfl (Res.mk z ⟨b, rfl, y.s.sub rfl rfl⟩))
theorem p111 {x0 b k0 r} (d : Rd W K [b] x0) (hm : Vm.impl_listOf x0 = some r) : Q1 111 [b] W [] fun W' v => ∃ a, v = a ∧ Ow W' k0 [] [a] r :=
 (c111 (d.view _) hm).ad (fk k0) fun _ _ ⟨a, e, f⟩ => ⟨a, e, f.back (fk_LL _)⟩
theorem c91 {x0 z A x1 x2 r} (h0 : Rd W0 [0] [z, A] x0) (hm : Vm.impl_Repo_bases x0 x1 x2 = some r) : Q0 91 [.agg [z, A].toArray, vI x1, vI x2] W0 fun Wf v => ∃ u0, v = u0 ∧ OwS Wf LL [] [u0] r := by
 unfold Vm.impl_Repo_bases at hm
 obtain ⟨c3, c4, ah, B, N⟩ := Repo.split h0
 simp only [List.cons.injEq, and_true, true_and] at ah
 obtain ⟨rfl, rfl⟩ := ah
 refine CallR.of Tryz.func91 rfl rfl rfl rfl (sr (bo 2 rfl fun g1 W1 l1 b1 => ?_))
 have a2 := l1.o
 refine Nv (.slice none 0 0) rfl (Cw.seq (Cw.draw [] [(0, 1), (1, 0), (3, 1), (4, 0), (2, 2), (5, 2), (6, 0), (7, 0)] mixed (by kernel_rfl) fun W3 l3 => ?_))
 have O := a2.n l3
 have P := b1.up l3
 refine Mw.q rfl rfl (fun _ c => R.lda (cs := [z, A]) (P.clcs rfl c) rfl rfl) (Di rfl (Mw.q rfl rfl (fun _ c => R.lda (cs := [z, A]) (P.clcs rfl c) rfl rfl) (Di rfl ?_)))
 obtain ⟨z8, e9, hm⟩ := ob hm
 refine Mw.t rfl rfl (T.call rfl (p57 (k0 := 3) (Repo.rd (K := [0]) x0.Commits x0.Heads (B.ul O) (N.ul O)) e9)) ?_
 rintro aj _ ⟨c8, rfl, l10, ⟨_, rfl, bk⟩⟩
 have Q := O.n l10
 refine m0 l10 fun bl => ?_
 obtain ⟨bm, bn, hm⟩ := ob hm
 refine Mw.t rfl rfl (T.call rfl (p57 (k0 := 4) (Repo.rd (K := [0]) x0.Commits x0.Heads (B.ul Q) (N.ul Q)) bn)) ?_
 rintro ak _ ⟨c9, rfl, C, ⟨_, rfl, bp⟩⟩
 have am := Q.n C
 have an := (P.up l10).up C
 refine mc bl C fun da => Hv aj rfl (Hv ak rfl (Mw.nil (sr (fl an rfl (Lw.ln x0.Commits (B.ul am) rfl ?_)))))
 obtain ⟨S, bq, hm⟩ := ob hm
 refine Lw.t rfl (T.mk (α := Bool) 5 [] (n := (x0.Commits.length : Int)) rfl rfl bq) ?_
 rintro d _ ⟨ao, rfl, D, ap⟩
 have br := am.n D
 refine Nv d rfl (ssr (mv d rfl (Lw.ln S ap.rd rfl (mi rfl (nl (Cw.block ?_))))))
 obtain ⟨bu, bv, hm⟩ := jn_e hm
 refine Cw.loop 28 44 [10, 28] (fun m l w => ∃ a U aq E, CW.w E = w ∧ Le [5] ao E ∧ l = [aq, vI a] ∧ Ow E 5 [] [d] U ∧ Vm.impl_Repo_bases_l1 z8 bm S bu m a U = some r) _ ⟨0, S, undef, ao, rfl, Le.refl _ _, rfl, ap, hm⟩ ?_
 rintro (_ | db) _ _ σ ⟨a, U, aq, E, rfl, e, rfl, f, hm⟩
 ·cases hm
 unfold Vm.impl_Repo_bases_l1 at hm
 have bw := br.t e
 have ar := ((bk.up C).up D).up e
 have au := (bp.up D).up e
 refine sr (Lw.lt rfl (nl (Cw.seq (cn hm (fun hm => ?_) fun hm => ?_))))
 ·refine sk (Cw.seq (Cw.block (sr (mi rfl (Ni rfl (rg (mv d rfl (mi rfl (mv aj rfl (mi rfl ?_))))))))))
  obtain ⟨dc, av, hm⟩ := ob hm
  refine Lw.r rfl (R.ix (α := Bool) ar.rd av rfl rfl rfl) (Lw.r rfl (R.ld rfl rfl (ar.rd.at_ av).bool) (mb rfl (bs hm (fun i hm => ?_) fun i hm => ?_)))
  ·refine wak 4 i (mv ak rfl (mi rfl ?_))
   obtain ⟨dd, aw, hm⟩ := ob hm
   refine Lw.r rfl (R.ix (α := Bool) au.rd aw rfl rfl rfl) (Lw.r rfl (R.ld rfl rfl (au.rd.at_ aw).bool) (Pb i rfl ?_))
   obtain ⟨de, bz, hm⟩ := ob hm
   refine Lw.r rfl (R.ix (α := Bool) f.rd bz rfl rfl rfl) ?_
   obtain ⟨b0, b2, hm⟩ := ob hm
   refine Lw.u (T.stS (K' := []) f (rdB _) b2 rfl rfl rfl) ?_
   rintro _ _ ⟨b3, rfl, b4, b6⟩
   exact nl (rg (Lw.add rfl (mi rfl (nl ((agm) ⟨w64 (a + 1), b0, vI a, b3, rfl, (e.j b4).w, rfl, b6, hm⟩)))))
  ·refine psk 4 i rfl (Pb i rfl ?_)
   obtain ⟨df, b7, hm⟩ := ob hm
   refine Lw.r rfl (R.ix (α := Bool) f.rd b7 rfl rfl rfl) ?_
   obtain ⟨b8, b9, hm⟩ := ob hm
   refine Lw.u (T.stS (K' := []) f (rdB _) b9 rfl rfl rfl) ?_
   rintro _ _ ⟨cb, rfl, cc, cd⟩
   exact nl (rg (Lw.add rfl (mi rfl (nl ((agm) ⟨w64 (a + 1), b8, vI a, cb, rfl, (e.j cc).w, rfl, cd, hm⟩)))))
 ·refine Cw.exit ?_
  rw [bv] at hm
  refine sr (mv d rfl (cr hm (fun _ => p110 (K := [5]) (k0 := 6) f.rd) ?_))
  rintro ce h dg hm V ⟨_, rfl, cf⟩
  have cg := bw.n V
  refine Nv h rfl (ssr (mv d rfl (cr hm (fun _ => p111 (K := [5]) (k0 := 7) (f.up V).rd) ?_)))
  rintro ax dh ay hm W ⟨_, rfl, X⟩
  have ch := cg.n W
  refine Lw.ln ax X.rd rfl (mi rfl (nl (Cw.block ?_)))
  obtain ⟨ci, cj, hm⟩ := jn_e hm
  refine Cw.loop 50 70 [13, 15, 50] (fun m l w => ∃ F G az Y H, CW.w H = w ∧ Le [6] ay H ∧ l = [az, Y, vI F] ∧ Ow H 6 [] [h] G ∧ Vm.impl_Repo_bases_l2 x0 ax ci m F G = some r) _ ⟨0, ce, undef, undef, ay, rfl, Le.refl _ _, rfl, (cf.up W), hm⟩ ?_
  rintro (_ | di) _ _ σ ⟨F, G, az, Y, H, rfl, k, rfl, a0, hm⟩
  ·cases hm
  unfold Vm.impl_Repo_bases_l2 at hm
  have Z := ch.t k
  refine sr (Lw.lt rfl (nl (Cw.seq (cn hm (fun hm => ?_) fun hm => ?_))))
  ·refine sk (Cw.seq (Cw.block (sr ?_)))
   obtain ⟨a1, a3, hm⟩ := ob hm
   refine Lw.r rfl (R.ix (α := Int) (X.up k).rd a3 rfl rfl rfl) (Lw.r rfl (R.ld rfl rfl ((X.up k).rd.at_ a3).int) (Ni rfl (sr (la (((((an.up D).up e).up V).up W).up k) (mi rfl (cr hm (fun _ => p57 (k0 := 8) (Repo.rd (K := [0]) x0.Commits x0.Heads (B.ul Z) (N.ul Z))) ?_))))))
   rintro dj dk dl hm a5 ⟨_, rfl, ck⟩
   refine cr hm (fun _ => p111 (K := [8]) (k0 := 9) ck.rd) ?_
   rintro a6 dm a7 hm a8 ⟨_, rfl, aa⟩
   refine Lw.ln a6 aa.rd rfl (mi rfl (nl (Cw.block ?_)))
   obtain ⟨cl, cm, hm⟩ := jn_e hm
   refine Cw.loop 59 69 [15, 59] (fun m l w => ∃ I x ac b, CW.w b = w ∧ Le [6] a7 b ∧ l = [ac, vI I] ∧ Ow b 6 [] [h] x ∧ Vm.impl_Repo_bases_l3 a1 a6 cl m I x = some r) _ ⟨0, G, Y, a7, rfl, Le.refl _ _, rfl, ((a0.up a5).up a8), hm⟩ ?_
   rintro (_ | dn) _ _ σ ⟨I, x, ac, b, rfl, J, rfl, L, hm⟩
   ·cases hm
   unfold Vm.impl_Repo_bases_l3 at hm
   refine sr (Lw.lt rfl (nl (Cw.seq (cn hm (fun hm => ?_) fun hm => ?_))))
   ·refine sk ?_
    obtain ⟨co, cp, hm⟩ := jn_e hm
    refine Cw.join 61 68 [15] (fun l w => ∃ M ae y, CW.w y = w ∧ Le [6] b y ∧ l = [ae] ∧ Ow y 6 [] [h] M ∧ co M = some r) ?_ ?_
    ·rintro _ _ σ ⟨M, ae, y, rfl, cq, rfl, ct, hm⟩
     rw [cp] at hm
     exact rg (Lw.add rfl (mi rfl (nl ((agm) ⟨w64 (I + 1), M, ae, y, rfl, (J.j cq).w, rfl, ct, hm⟩))))
    ·refine Cw.block (sr ?_)
     obtain ⟨a9, ba, hm⟩ := ob hm
     refine Lw.r rfl (R.ix (α := Int) (aa.up J).rd ba rfl rfl rfl) (Lw.r rfl (R.ld rfl rfl ((aa.up J).rd.at_ ba).int) (Ni rfl (sr (mi rfl (mi rfl (Lw.ne rfl (nl (cn hm (fun hm => ?_) fun hm => ?_))))))))
     ·refine rg (mv h rfl (mi rfl ?_))
      obtain ⟨dp, cu, hm⟩ := ob hm
      refine Lw.r rfl (R.ix (α := Bool) L.rd cu rfl rfl rfl) ?_
      obtain ⟨cv, cw, hm⟩ := ob hm
      refine Lw.u (T.stS (K' := []) L (rdB _) cw rfl rfl rfl) ?_
      rintro _ _ ⟨cx, rfl, cy, cz⟩
      exact nl ((ag) ⟨cv, vI a9, cx, rfl, cy, rfl, cz, hm⟩)
     ·exact sk ((ag) ⟨x, vI a9, b, rfl, Le.refl _ _, rfl, L, hm⟩)
   ·refine Cw.exit ?_
    rw [cm] at hm
    exact rg (Lw.add rfl (mi rfl (nl ((agm) ⟨w64 (F + 1), x, vI a1, ac, b, rfl, (((k.j a5).j a8).j J).w, rfl, L, hm⟩))))
  ·refine Cw.exit ?_
   rw [cj] at hm
   refine sr (mv h rfl (cr hm (fun _ => p111 (K := [6]) (k0 := 10) a0.rd) ?_))
   rintro dq bb dr hm c0 ⟨_, rfl, c1⟩
   have c2 := Z.n c0
   refine Nv bb rfl ?_
   cases hm
   exact Cw.ret (ret1 rfl (Res.mk c2 ⟨bb, rfl, c1.s.sub rfl rfl⟩))
theorem p91 {x0 b d x1 x2 k0 r} (f : Rd W K [b, d] x0) (hm : Vm.impl_Repo_bases x0 x1 x2 = some r) : Q1 91 [.agg [b, d].toArray, vI x1, vI x2] W [] fun W' v => ∃ a, v = a ∧ Ow W' k0 [] [a] r :=
 (c91 (f.view _) hm).ad (fk k0) fun _ _ ⟨a, e, h⟩ => ⟨a, e, h.back (fk_LL _)⟩
theorem c60 {x0 d e x1 x2 r} (H : Rd W0 [0] [d, e] x0) (hm : Vm.impl_Repo_baseTree x0 x1 x2 = some r) : Q0 60 [.agg [d, e].toArray, vI x1, vI x2] W0 fun Wf v => ∃ x, v = x ∧ Rd Wf [0] [x] r := by
 unfold Vm.impl_Repo_baseTree at hm
 obtain ⟨Q, S, y, z, A⟩ := Repo.split H
 simp only [List.cons.injEq, and_true, true_and] at y
 obtain ⟨rfl, rfl⟩ := y
 refine CallR.of Tryz.func60 rfl rfl rfl rfl (sr (bo 2 rfl fun U V I B => ?_))
 have f := I.o
 refine Nv (.slice none 0 0) rfl (sr (la B (mi rfl (mi rfl (cr hm (fun _ => p91 (k0 := 3) (Repo.rd (K := [0]) x0.Commits x0.Heads (z.ul f) (A.ul f))) ?_)))))
 rintro C a W hm D ⟨_, rfl, E⟩
 have F := f.n D
 refine Nv a rfl (ssr (mv a rfl (Lw.ln C E.rd rfl (Lw.eq rfl (nl (cn hm (fun hm => ?_) fun hm => ?_))))))
 ·refine sr (Nv (.slice none 0 0) rfl ?_)
  cases hm
  exact Cw.ret (ret1 rfl (Res.mk F ⟨.slice none 0 0, rfl, (rdN (K := [0]))⟩))
 ·refine sk (Cw.seq (Cw.draw [] [(0, 1), (1, 0), (2, 0), (3, 0), (4, 0), (5, 0), (6, 1), (7, 3), (8, 0)] mixed (by kernel_rfl) fun X h => ?_))
  have i := F.n h
  have b := E.up h
  refine Mw.q rfl rfl (fun _ c => R.lda (cs := [d, e]) (((B.up D).up h).clcs rfl c) rfl rfl) (Dv a rfl (Dv a rfl (Mw.p rfl rfl (fun _ => lenR (xs := C) b.rd rfl) (Mw.p rfl rfl (fun _ => R.sub rfl rfl) ?_))))
  obtain ⟨Y, k, hm⟩ := ob hm
  refine Mw.p rfl rfl (fun _ => R.ix (α := Int) b.rd k rfl rfl rfl) (Mw.q rfl rfl (fun _ c => R.ld rfl rfl (cl_cell (b.rd.at_ k).1 rfl (b.rd.at_ k).int c)) ?_)
  obtain ⟨Z, J, hm⟩ := ob hm
  refine Mw.l rfl rfl (T.call rfl (p61  (Repo.rd (K := [0]) x0.Commits x0.Heads (z.ul i) (A.ul i)) J)) ?_
  rintro G _ ⟨aa, rfl, L, ⟨_, rfl, N⟩⟩
  have O := N.sub (M := [0]) rfl
  have P := i.n L
  refine Hv G rfl (Mw.nil ?_)
  cases hm
  exact Cw.ret (ret1 rfl (Res.mk P ⟨G, rfl, O⟩))
theorem p60 {x0 b d x1 x2 r} (f : Rd W K [b, d] x0) (hm : Vm.impl_Repo_baseTree x0 x1 x2 = some r) : Q1 60 [.agg [b, d].toArray, vI x1, vI x2] W [] fun W' v => ∃ a, v = a ∧ Rd W' (0 :: K) [a] r :=
 (c60 (f.view _) hm).ad (fk 0) fun _ _ ⟨a, e, h⟩ => ⟨a, e, h.back rfl⟩
end Go.Sx
