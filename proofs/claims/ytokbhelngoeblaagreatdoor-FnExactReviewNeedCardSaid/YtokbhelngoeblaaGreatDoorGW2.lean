/- Walks: each function answers as its model, printed by a program of ours. Conditions: the arguments read as they are given. -/
import Derived.Test.YtokbhelngoeblaaGreatDoorGTs
import Derived.Test.YtokbhelngoeblaaGreatDoorGM0
import Derived.Test.YtokbhelngoeblaaGreatDoorGW1
import Derived.Test.YtokbhelngoeblaaGreatDoorGE
namespace Go.Sx
open Go Go.Proofs Go.Vm Rp
set_option linter.unusedVariables false
set_option linter.unusedSimpArgs false
variable {W W0 : CW} {K : List Nat}
theorem c143 {x0 x1 r} (h : Gl 0 W0 [0]) (hm : Vm.zbR x0 x1 = some r) : Q0 143 [vS x0, vS x1] W0 fun Wf v => v = vB r := by
 unfold Vm.zbR at hm
 refine zaj.of Tryz.func143 rfl rfl rfl rfl (sr (Nb rfl ?_))
 obtain ⟨k, x, hm⟩ := zaS hm
 refine Cw.join 5 16 [4] (fun l w => ∃ e f, CW.w f = w ∧ Le [] W0 f ∧ l = [vB e] ∧ k e = some r) ?_ ?_
 ·rintro _ _ σ ⟨e, f, rfl, y, rfl, hm⟩
  rw [x] at hm
  have z := y.o
  exact .ret (rt hm z)
 ·refine rg (ms rfl (ca hm (fun _ => p142 h) fun H A hm d => ?_))
  have B := d.o
  refine mb rfl (bs hm (fun a hm => ?_) fun a hm => ?_)
  ·refine wak 2 a (ms rfl (ca hm (fun _ => p142 (h.ul B)) fun I C hm i => Pb a rfl (mb rfl (bs hm (fun b hm => ?_) fun b hm => ?_))))
   ·refine wak 4 b (ms rfl (ms rfl ?_))
    obtain ⟨J, D, hm⟩ := ob hm
    exact Lw.r rfl (R.sad D rfl rfl) (ca hm (fun _ => p179) fun E F hm G => Pb b rfl (Nb rfl ((ag) ⟨E, F, rfl, ((d.j i).j G).w, rfl, hm⟩)))
   ·exact psk 4 b rfl (Pb b rfl (Nb rfl ((ag) ⟨false, C, rfl, (d.j i).w, rfl, hm⟩)))
  ·exact psk 2 a rfl (Pb a rfl (mb rfl (psk 4 rfl rfl (Pb rfl rfl (Nb rfl ((ag) ⟨false, A, rfl, d, rfl, hm⟩))))))
theorem p143 {x0 x1 r} (a : Gl 0 W K) (hm : Vm.zbR x0 x1 = some r) : Q1 143 [vS x0, vS x1] W [] fun W' v => v = vB r :=
 (c143 (a.view _) hm).ad (fk 0) fun _ _ e => e
theorem c85 {x0 h r} (f : Rd W0 [0] [h] x0) (Z : Gl 0 W0 [0]) (hm : Vm.zb1 x0 = some r) : Q0 85 [h] W0 fun Wf v => v = vB r := by
 unfold Vm.zb1 at hm
 refine zaj.of Tryz.func85 rfl rfl rfl rfl (sr (Nb rfl (ssr (mv h rfl (Lw.ln x0 f rfl (Lw.gt rfl (nl (cn hm (fun hm => ?_) fun hm => ?_))))))))
 ·exact sr (Nb rfl (.ret (rt hm (Le.refl _ _))))
 ·refine sk (ssr (mv h rfl (Lw.ln x0 f rfl (mi rfl (nl (Cw.block ?_))))))
  obtain ⟨K8, ar, hm⟩ := zaS hm
  refine Cw.loop 12 56 [2, 3, 4, 6, 12] (fun m l w => ∃ B d j3 j4 J K, CW.w K = w ∧ Le [2, 3] W0 K ∧ l = [vB B, j3, j4, J, vI d] ∧ Vm.zco x0 K8 m B d = some r) _ ⟨false, 0, undef, undef, undef, W0, rfl, Le.refl _ _, rfl, hm⟩ ?_
  rintro (_ | m9) _ _ σ ⟨B, d, j3, j4, J, K, rfl, l7, rfl, hm⟩
  ·cases hm
  unfold Vm.zco at hm
  have i := l7.s
  refine sr (Lw.lt rfl (nl (Cw.seq (cn hm (fun hm => ?_) fun hm => ?_))))
  ·refine sk (Cw.seq (Cw.block (sr (mi rfl ?_))))
   obtain ⟨k, af, hm⟩ := ob hm
   refine Lw.r rfl (R.ix (α := File) (f.ul i) af rfl rfl rfl) ?_
   obtain ⟨x15, c16, _, r17⟩ := ((f.ul i).at_ af).cells
   obtain ⟨bg, rfl, r19⟩ := File.split r17
   refine Lw.r rfl (R.lda c16 rfl rfl) (al 2 [vS ([] : Str), .slice none 0 0] fun au bh ah av => ?_)
   have C := ah.o
   refine Gi rfl (sta av (zaa rfl (zaa r19.oc zaR)) fun aw ai aj => ?_)
   have D := ai.s
   refine nl (Cw.seq ?_)
   obtain ⟨ax, ay, hm⟩ := zaS hm
   refine Cw.join 17 41 [41] (fun l w => ∃ L z, CW.w z = w ∧ Le [] aw z ∧ l = [vB L] ∧ ax L = some r) ?_ ?_
   ·rintro _ _ σ ⟨L, z, rfl, M, rfl, hm⟩
    rw [ay] at hm
    have E := ((i.trans C).trans D).n M
    refine cn hm (fun hm => ?_) fun hm => ?_
    ·exact sr (Nb rfl (.ret (rt hm E)))
    ·refine sk (sr (mv h rfl (mi rfl ?_)))
     obtain ⟨ak, am, hm⟩ := ob hm
     have r34 := (f.ul E).cutV am
     refine Lw.r rfl (R.sl (f.ul E) am rfl (.inl ⟨rfl, rfl⟩) (.inr rfl)) (Lw.ln ak r34 rfl (mi rfl (nl (Cw.block ?_))))
     obtain ⟨az, a0, hm⟩ := zaS hm
     refine Cw.loop 46 55 [2, 6, 46] (fun m l w => ∃ A F N G, CW.w G = w ∧ Le [3] z G ∧ l = [vB A, N, vI F] ∧ Vm.zbx k ak az m A F = some r) _ ⟨B, 0, J, z, rfl, Le.refl _ _, rfl, hm⟩ ?_
     rintro (_ | bi) _ _ σ ⟨A, F, N, G, rfl, H, rfl, hm⟩
     ·cases hm
     unfold Vm.zbx at hm
     have O := H.s
     refine sr (Lw.lt rfl (nl (Cw.seq (cn hm (fun hm => ?_) fun hm => ?_))))
     ·refine sk (Cw.seq (Cw.block (sr ?_)))
      obtain ⟨bj, an, hm⟩ := ob hm
      refine Lw.r rfl (R.ix (α := File) (r34.ul O) an rfl rfl rfl) ?_
      obtain ⟨x47, c48, _, r49⟩ := ((r34.ul O).at_ an).cells
      obtain ⟨bk, rfl, r51⟩ := File.split r49
      refine Lw.r rfl (R.lda c48 rfl rfl) (al 3 [vS ([] : Str), .slice none 0 0] fun a1 bl P a2 => ?_)
      have a3 := (E.trans O).n P
      refine sta a2 (zaa rfl (zaa r51.oc zaR)) fun bm Q a4 => ?_
      have ao := a3.t Q
      refine nl (sr (fl a4 rfl (fl ((((aj.up M).up H).up P).up Q) rfl (ca hm (fun _ => p143 (Z.ul ao)) fun bn a5 hm ap => ?_))))
      have a6 := ao.n ap
      refine nl (cn hm (fun hm => ?_) fun hm => ?_)
      ·exact sr (Nb rfl (.ret (rt hm a6)))
      ·exact sk (rg (Lw.add rfl (mi rfl (nl ((agm) ⟨A, w64 (F + 1), ptr (bx a1), a5, rfl, (((H.j P).j Q).j ap).w, rfl, hm⟩)))))
     ·refine Cw.exit ?_
      rw [a0] at hm
      exact rg (Lw.add rfl (mi rfl (nl ((agm) ⟨A, w64 (d + 1), vI d, ptr (bx au), N, G, rfl, ((((l7.j ah).j ai).j M).j H).w, rfl, hm⟩))))
   ·refine Cw.draw [] [(0, 0), (1, 1), (2, 2), (3, 0), (4, 0), (5, 0), (6, 1), (7, 2), (8, 0), (9, 0), (10, 0), (11, 0), (12, 0), (13, 0), (14, 0), (15, 0), (16, 0), (17, 0), (18, 0), (19, 1), (20, 0), (21, 1), (22, 0), (23, 0), (24, 0)] mixed (by kernel_rfl) fun bp x => ?_
    have S := x.o
    have U := aj.up x
    refine Dfl U rfl rfl rfl ?_
    obtain ⟨bq, a7, hm⟩ := ob hm
    refine Mw.t rfl rfl (T.call rfl (p141  (r19.ul ((C.trans D).trans S)) a7)) ?_
    rintro _ _ ⟨a8, rfl, y, rfl⟩
    have a9 := (((i.trans C).trans D).trans S).n y
    refine m0 y fun ba => Mw.p rfl rfl (fun _ => R.not rfl) (Db rfl (bs hm (fun e hm => ?_) fun e hm => ?_))
    ·exact dps 4 e rfl (Mw.p rfl rfl (fun _ => R.pk e rfl (v := vB true) rfl) (Db rfl (dps 3 rfl rfl (dpu 9 rfl (dps 1 rfl rfl (Mw.p rfl rfl (fun _ => R.pk rfl rfl (v := vB true) rfl) (Mw.nil ((ag) ⟨true, a8, rfl, (x.j y).w, rfl, hm⟩))))))))
    ·refine Wp e rfl (fun _ => R.fa rfl) (Wq e rfl (fun _ c => R.ld (v := vS k.Path) rfl rfl (U.clc rfl rfl c)) ?_)
     obtain ⟨bb, bc, hm⟩ := ob hm
     refine Wt e rfl (T.call rfl (p142  (Z.ul a9) bc)) ?_
     rintro _ _ ⟨V, rfl, I, rfl⟩
     refine mc ba I fun br => Wp e rfl (fun _ => R.not rfl) (Mw.p rfl rfl (fun _ => R.pk e rfl (v := vB (!bb)) rfl) (Db rfl (bs hm (fun b hm => ?_) fun b hm => ?_)))
     ·exact dps 3 b rfl (dpu 9 rfl (dps 1 b rfl (Mw.p rfl rfl (fun _ => R.pk b rfl (v := vB true) rfl) (Mw.nil ((ag) ⟨true, V, rfl, ((x.j y).j I).w, rfl, hm⟩)))))
     ·refine Wp b rfl (fun _ => R.mv (v := vI d) rfl) (Wp b rfl (fun _ => R.gt rfl rfl) (Wp b rfl (fun _ => R.mv (v := vB (decide ((0 : Int) < (d : Int)))) rfl) (bs hm (fun a hm => ?_) fun a hm => ?_)))
      ·refine Wp a rfl (fun _ => R.mv (v := h) rfl) (Wp a rfl (fun _ => R.mv (v := vI d) rfl) (Wp a rfl (fun _ => R.sub rfl rfl) ?_))
       obtain ⟨W, X, hm⟩ := ob hm
       have Y := f.ul (((i.trans C).trans D).trans S)
       exact Wp a rfl (fun _ => R.ix (α := File) Y X rfl rfl rfl) (Wp a rfl (fun _ => R.fa rfl) (Wq a rfl (fun _ c => R.ld rfl rfl (zah (File.at0 (Y.at_ X)).1 rfl (File.at0 (Y.at_ X)).str c)) (Wp a rfl (fun _ => R.fa rfl) (Wq a rfl (fun _ c => R.ld (v := vS k.Path) rfl rfl (U.clc rfl rfl c)) (Wp a rfl (fun _ => R.sge rfl rfl) (Wp b rfl (fun _ => R.pk a rfl (v := vB (!Op.bytesLess W.Path k.Path)) rfl) (Mw.p rfl rfl (fun _ => R.pk b rfl (v := vB (!Op.bytesLess W.Path k.Path)) rfl) (Mw.nil ((ag) ⟨(!Op.bytesLess W.Path k.Path), V, rfl, ((x.j y).j I).w, rfl, hm⟩)))))))))
      ·exact dps 9 a rfl (Wp b rfl (fun _ => R.pk a rfl (v := vB false) rfl) (Mw.p rfl rfl (fun _ => R.pk b rfl (v := vB false) rfl) (Mw.nil ((ag) ⟨false, V, rfl, ((x.j y).j I).w, rfl, hm⟩))))
  ·refine Cw.exit ?_
   rw [ar] at hm
   exact sr (Nb rfl (.ret (rt hm i)))
theorem p85 {x0 a r} (b : Rd W K [a] x0) (d : Gl 0 W K) (hm : Vm.zb1 x0 = some r) : Q1 85 [a] W [] fun W' v => v = vB r :=
 (c85 (b.view _) (d.view _) hm).ad (fk 0) fun _ _ e => e
theorem c66 {x0 a b x1 r} (f : Rd W0 [0] [a, b] x0) (hm : Vm.zbC x0 x1 = some r) : Q0 66 [.agg [a, b].toArray, vI x1] W0 fun Wf v => v = vB r := by
 unfold Vm.zbC at hm
 obtain ⟨z, A, d, h, B⟩ := Repo.split f
 simp only [List.cons.injEq, and_true, true_and] at d
 obtain ⟨rfl, rfl⟩ := d
 refine zaj.of Tryz.func66 rfl rfl rfl rfl (sr (bo 2 rfl fun C D i k => ?_))
 have e := i.o
 refine Nb rfl (sr (mi rfl (fl k rfl (Lw.ln x0.Commits (h.ul e) rfl (Lw.sub rfl (ca hm (fun _ => p86) fun E F hm x => ?_))))))
 have y := e.n x
 exact Nb rfl (.ret (rt hm y))
theorem p66 {x0 a b x1 r} (d : Rd W K [a, b] x0) (hm : Vm.zbC x0 x1 = some r) : Q1 66 [.agg [a, b].toArray, vI x1] W [] fun W' v => v = vB r :=
 (c66 (d.view _) hm).ad (fk 0) fun _ _ e => e
theorem c87 {x0 E F x1 k r} (h0 : Rd W0 [0] [E, F] x0) (f : Rd W0 [0] [k] x1) (hm : Vm.ze0 x0 x1 = some r) : Q0 87 [.agg [E, F].toArray, k] W0 fun Wf v => v = vB r := by
 unfold Vm.ze0 at hm
 obtain ⟨a0, a1, Q, ac, ae⟩ := Repo.split h0
 simp only [List.cons.injEq, and_true, true_and] at Q
 obtain ⟨rfl, rfl⟩ := Q
 refine zaj.of Tryz.func87 rfl rfl rfl rfl (sr (bo 2 rfl fun g1 S l1 b1 => ?_))
 have y := l1.o
 refine Nb rfl (ssr (mv k rfl (Lw.ln x1 (f.ul y) rfl (Lw.gt rfl (nl (cn hm (fun hm => ?_) fun hm => ?_))))))
 ·exact sr (Nb rfl (.ret (rt hm y)))
 ·refine sk (ssr (mv k rfl (Lw.ln x1 (f.ul y) rfl (mi rfl (nl (Cw.block ?_))))))
  obtain ⟨ai, aj, hm⟩ := zaS hm
  refine Cw.loop 12 43 [4, 5, 6, 12] (fun m l w => ∃ z e U V G, CW.w G = w ∧ Le [3] S G ∧ l = [vB z, U, V, vI e] ∧ Vm.zbS x0 x1 ai m z e = some r) _ ⟨false, 0, undef, undef, S, rfl, Le.refl _ _, rfl, hm⟩ ?_
  rintro (_ | a4) _ _ σ ⟨z, e, U, V, G, rfl, H, rfl, hm⟩
  ·cases hm
  unfold Vm.zbS at hm
  have A := y.t H
  refine sr (Lw.lt rfl (nl (Cw.seq (cn hm (fun hm => ?_) fun hm => ?_))))
  ·refine sk (Cw.seq (Cw.block (sr (mi rfl ?_))))
   obtain ⟨x, W, hm⟩ := ob hm
   refine Lw.r rfl (R.ix (α := Head) (f.ul A) W rfl rfl rfl) ?_
   obtain ⟨x18, c19, _, r20⟩ := ((f.ul A).at_ W).cells
   obtain rfl := Head.split r20
   refine Lw.r rfl (R.lda c19 rfl rfl) (al 3 [vS ([] : Str), vI 0] fun ak a5 I am => ?_)
   have an := A.n I
   refine Gi rfl (sta am (zaa rfl (zaa rfl zaR)) fun ao J ap => ?_)
   have X := an.t J
   refine nl ?_
   obtain ⟨aq, ar, hm⟩ := zaS hm
   refine Cw.join 17 42 [42] (fun l w => ∃ L B, CW.w B = w ∧ Le [] ao B ∧ l = [vB L] ∧ aq L = some r) ?_ ?_
   ·rintro _ _ σ ⟨L, B, rfl, Y, rfl, hm⟩
    rw [ar] at hm
    have au := X.n Y
    refine cn hm (fun hm => ?_) fun hm => ?_
    ·exact sr (Nb rfl (.ret (rt hm au)))
    ·exact sk (rg (Lw.add rfl (mi rfl (nl ((agm) ⟨z, w64 (e + 1), vI e, ptr (bx ak), B, rfl, (((H.j I).j J).j Y).w, rfl, hm⟩)))))
   ·refine Cw.draw [] [(0, 0), (1, 1), (2, 2), (3, 0), (4, 0), (5, 1), (6, 0), (7, 1), (8, 2), (9, 0), (10, 0), (11, 0), (12, 0), (13, 0), (14, 0), (15, 0), (16, 0), (17, 0), (18, 0), (19, 0), (20, 1), (21, 0), (22, 1), (23, 0), (24, 0), (25, 0)] mixed (by kernel_rfl) fun a6 h => ?_
    have C := X.n h
    have M := ap.up h
    refine Dfl M rfl rfl rfl ?_
    obtain ⟨a7, av, hm⟩ := ob hm
    refine Mw.t rfl rfl (T.call rfl (p84   av)) ?_
    rintro _ _ ⟨aw, rfl, i, rfl⟩
    have Z := C.n i
    refine m0 i fun ax => Mw.p rfl rfl (fun _ => R.not rfl) (Db rfl (bs hm (fun d hm => ?_) fun d hm => ?_))
    ·exact dps 5 d rfl (Mw.p rfl rfl (fun _ => R.pk d rfl (v := vB true) rfl) (Db rfl (dps 3 rfl rfl (dpu 9 rfl (dps 1 rfl rfl (Mw.p rfl rfl (fun _ => R.pk rfl rfl (v := vB true) rfl) (Mw.nil ((ag) ⟨true, aw, rfl, (h.j i).w, rfl, hm⟩))))))))
    ·refine Wq d rfl (fun _ c => R.lda (cs := [E, F]) (((((b1.up H).up I).up J).up h).clcs rfl c) rfl rfl) (Wp d rfl (fun _ => R.fa rfl) (Wq d rfl (fun _ c => R.ld (v := vI x.At) rfl rfl (M.clc rfl rfl c)) ?_))
     obtain ⟨ay, az, hm⟩ := ob hm
     refine Wt d rfl (T.call rfl (p66  (Repo.rd (K := [0]) x0.Commits x0.Heads (ac.ul Z) (ae.ul Z)) az)) ?_
     rintro _ _ ⟨N, rfl, D, rfl⟩
     refine mc ax D fun a8 => Wp d rfl (fun _ => R.not rfl) (Mw.p rfl rfl (fun _ => R.pk d rfl (v := vB (!ay)) rfl) (Db rfl (bs hm (fun b hm => ?_) fun b hm => ?_)))
     ·exact dps 3 b rfl (dpu 9 rfl (dps 1 b rfl (Mw.p rfl rfl (fun _ => R.pk b rfl (v := vB true) rfl) (Mw.nil ((ag) ⟨true, N, rfl, ((h.j i).j D).w, rfl, hm⟩)))))
     ·refine Wp b rfl (fun _ => R.mv (v := vI e) rfl) (Wp b rfl (fun _ => R.gt rfl rfl) (Wp b rfl (fun _ => R.mv (v := vB (decide ((0 : Int) < (e : Int)))) rfl) (bs hm (fun a hm => ?_) fun a hm => ?_)))
      ·refine Wp a rfl (fun _ => R.mv (v := k) rfl) (Wp a rfl (fun _ => R.mv (v := vI e) rfl) (Wp a rfl (fun _ => R.sub rfl rfl) ?_))
       obtain ⟨O, P, hm⟩ := ob hm
       exact Wp a rfl (fun _ => R.ix (α := Head) (f.ul C) P rfl rfl rfl) (Wp a rfl (fun _ => R.fa rfl) (Wq a rfl (fun _ c => R.ld rfl rfl (zah (Head.at0 ((f.ul C).at_ P)).1 rfl (Head.at0 ((f.ul C).at_ P)).str c)) (Wp a rfl (fun _ => R.fa rfl) (Wq a rfl (fun _ c => R.ld (v := vS x.Name) rfl rfl (M.clc rfl rfl c)) (Wp a rfl (fun _ => R.sge rfl rfl) (Wp b rfl (fun _ => R.pk a rfl (v := vB (!Op.bytesLess O.Name x.Name)) rfl) (Mw.p rfl rfl (fun _ => R.pk b rfl (v := vB (!Op.bytesLess O.Name x.Name)) rfl) (Mw.nil ((ag) ⟨(!Op.bytesLess O.Name x.Name), N, rfl, ((h.j i).j D).w, rfl, hm⟩)))))))))
      ·exact dps 9 a rfl (Wp b rfl (fun _ => R.pk a rfl (v := vB false) rfl) (Mw.p rfl rfl (fun _ => R.pk b rfl (v := vB false) rfl) (Mw.nil ((ag) ⟨false, N, rfl, ((h.j i).j D).w, rfl, hm⟩))))
  ·refine Cw.exit ?_
   rw [aj] at hm
   exact sr (Nb rfl (.ret (rt hm A)))
theorem p87 {x0 a b x1 d r} (f : Rd W K [a, b] x0) (h : Rd W K [d] x1) (hm : Vm.ze0 x0 x1 = some r) : Q1 87 [.agg [a, b].toArray, d] W [] fun W' v => v = vB r :=
 (c87 (f.view _) (h.view _) hm).ad (fk 0) fun _ _ e => e
theorem c22 {x0 aa ac r} (h0 : Rd W0 [0] [aa, ac] x0) (ae : Gl 0 W0 [0]) (hm : Vm.zeG x0 = some r) : Q0 22 [.agg [aa, ac].toArray] W0 fun Wf v => v = vB r := by
 unfold Vm.zeG at hm
 obtain ⟨b7, b8, af, C, ah⟩ := Repo.split h0
 simp only [List.cons.injEq, and_true, true_and] at af
 obtain ⟨rfl, rfl⟩ := af
 refine zaj.of Tryz.func22 rfl rfl rfl rfl (sr (bo 2 rfl fun g1 W1 l1 G => ?_))
 have H := l1.o
 refine Nb rfl (ssr (fl G rfl (Lw.ln x0.Commits (C.ul H) rfl (Lw.gt rfl (nl (cn hm (fun hm => ?_) fun hm => ?_))))))
 ·exact sr (Nb rfl (.ret (rt hm H)))
 ·refine sk (ssr (fl G rfl (Lw.ln x0.Commits (C.ul H) rfl (mi rfl (nl (Cw.block ?_))))))
  obtain ⟨a9, ba, hm⟩ := zaS hm
  refine Cw.loop 14 65 [2, 3, 4, 6, 14] (fun m l w => ∃ I B j6 j7 P Q, CW.w Q = w ∧ Le [3] W1 Q ∧ l = [vB I, j6, j7, P, vI B] ∧ Vm.zcp x0 a9 m I B = some r) _ ⟨false, 0, undef, undef, undef, W1, rfl, Le.refl _ _, rfl, hm⟩ ?_
  rintro (_ | cb) _ _ σ ⟨I, B, j6, j7, P, Q, rfl, l10, rfl, hm⟩
  ·cases hm
  unfold Vm.zcp at hm
  have d := H.t l10
  refine sr (Lw.lt rfl (nl (Cw.seq (cn hm (fun hm => ?_) fun hm => ?_))))
  ·refine sk (Cw.seq (Cw.block (sr (mi rfl ?_))))
   obtain ⟨A, am, hm⟩ := ob hm
   refine Lw.r rfl (R.ix (α := Commit) (C.ul d) am rfl rfl rfl) ?_
   obtain ⟨x19, c20, _, r21⟩ := ((C.ul d).at_ am).cells
   obtain ⟨S, an, rfl, r23, r25⟩ := Commit.split r21
   refine Lw.r rfl (R.lda c20 rfl rfl) (al 3 [.slice none 0 0, vS ([] : Str), .slice none 0 0] fun bb cc ao bc => ?_)
   have e := ao.o
   refine Gi rfl (sta bc (zaa r23.oc (zaa rfl (zaa r25.oc zaR))) fun be ap aq => ?_)
   have f := ap.s
   refine nl (Cw.seq ?_)
   obtain ⟨bg, bh, hm⟩ := zaS hm
   refine Cw.join 19 51 [51] (fun l w => ∃ U D, CW.w D = w ∧ Le [] be D ∧ l = [vB U] ∧ bg U = some r) ?_ ?_
   ·rintro _ _ σ ⟨U, D, rfl, V, rfl, hm⟩
    rw [bh] at hm
    have J := V.o
    refine cn hm (fun hm => ?_) fun hm => ?_
    ·exact sr (Nb rfl (.ret (rt hm (((d.trans e).trans f).trans J))))
    ·refine sk (sr (fl (aq.up V) rfl (Lw.ln A.Parents (r23.ul ((e.trans f).trans J)) rfl (mi rfl (nl (Cw.block ?_))))))
     obtain ⟨bi, bj, hm⟩ := zaS hm
     refine Cw.loop 55 64 [2, 6, 55] (fun m l w => ∃ E L W M, CW.w M = w ∧ Le [] D M ∧ l = [vB E, W, vI L] ∧ Vm.zby B A bi m E L = some r) _ ⟨I, 0, P, D, rfl, Le.refl _ _, rfl, hm⟩ ?_
     rintro (_ | cd) _ _ σ ⟨E, L, W, M, rfl, X, rfl, hm⟩
     ·cases hm
     unfold Vm.zby at hm
     have ar := X.o
     refine sr (Lw.lt rfl (nl (Cw.seq (cn hm (fun hm => ?_) fun hm => ?_))))
     ·refine sk (Cw.seq (Cw.block (sr ?_)))
      obtain ⟨bk, au, hm⟩ := ob hm
      have av := r23.ul (((e.trans f).trans J).trans ar)
      refine Lw.r rfl (R.ix (α := Int) av au rfl rfl rfl) (Lw.r rfl (R.ld rfl rfl (av.at_ au).int) (Ni rfl (sr (mi rfl (mi rfl (Lw.sub rfl (ca hm (fun _ => p86) fun ce bl hm aw => ?_)))))))
      have bm := ((((d.trans e).trans f).trans J).trans ar).n aw
      refine Lw.r rfl (R.not rfl) (nl (cn hm (fun hm => ?_) fun hm => ?_))
      ·exact sr (Nb rfl (.ret (rt hm bm)))
      ·exact sk (rg (Lw.add rfl (mi rfl (nl ((agm) ⟨E, w64 (L + 1), vI bk, bl, rfl, (X.j aw).w, rfl, hm⟩)))))
     ·refine Cw.exit ?_
      rw [bj] at hm
      exact rg (Lw.add rfl (mi rfl (nl ((agm) ⟨E, w64 (B + 1), vI B, ptr (bx bb), W, M, rfl, ((((l10.j ao).j ap).j V).j X).w, rfl, hm⟩))))
   ·refine Cw.draw [] [(0, 0), (1, 1), (2, 0), (3, 0), (4, 0), (5, 0), (6, 1), (7, 0), (8, 0), (9, 0), (10, 0), (11, 1), (12, 0), (13, 1), (14, 0), (15, 1), (16, 0), (17, 1), (18, 0), (19, 0), (20, 0), (21, 0), (22, 0), (23, 1), (24, 2), (25, 0), (26, 0), (27, 0), (28, 0), (29, 1), (30, 2), (31, 0), (32, 0)] mixed (by kernel_rfl) fun ax h => ?_
    have F := h.o
    have i := aq.up h
    have k := r23.ul ((e.trans f).trans F)
    refine Dfl i rfl rfl rfl (Mw.p rfl rfl (fun _ => zs4 (xs := A.Parents) k rfl) (Mw.p rfl rfl (fun _ => R.gt rfl rfl) (Db rfl (bs hm (fun a hm => ?_) fun a hm => ?_))))
    ·exact dps 5 a rfl (dpu 9 rfl (dps 1 a rfl (Mw.p rfl rfl (fun _ => R.pk a rfl (v := vB true) rfl) (Db rfl (dps 4 rfl rfl (Mw.p rfl rfl (fun _ => R.pk rfl rfl (v := vB true) rfl) (Db rfl (dps 4 rfl rfl (Mw.p rfl rfl (fun _ => R.pk rfl rfl (v := vB true) rfl) (Mw.nil ((ag) ⟨true, ax, rfl, h, rfl, hm⟩)))))))))))
    ·refine Wp a rfl (fun _ => R.fa rfl) (Wq a rfl (fun _ c => R.ld (v := S) rfl rfl (i.clc rfl rfl c)) (Wp a rfl (fun _ => zs4 (xs := A.Parents) k rfl) (Wp a rfl (fun _ => R.eq rfl rfl) (Wp a rfl (fun _ => R.mv (v := vB (((A.Parents.length : Int) : Int) == (2 : Int))) rfl) (bs hm (fun b hm => ?_) fun b hm => ?_)))))
     ·refine Wp b rfl (fun _ => R.fa rfl) (Wq b rfl (fun _ c => R.ld (v := S) rfl rfl (i.clc rfl rfl c)) ?_)
      obtain ⟨ay, Y, hm⟩ := ob hm
      refine Wp b rfl (fun _ => R.ix (α := Int) k Y rfl rfl rfl) (Wq b rfl (fun _ c => R.ld rfl rfl (zah (k.at_ Y).1 rfl (k.at_ Y).int c)) (Wp b rfl (fun _ => R.fa rfl) (Wq b rfl (fun _ c => R.ld (v := S) rfl rfl (i.clc rfl rfl c)) ?_)))
      obtain ⟨az, Z, hm⟩ := ob hm
      refine Wp b rfl (fun _ => R.ix (α := Int) k Z rfl rfl rfl) (Wq b rfl (fun _ c => R.ld rfl rfl (zah (k.at_ Z).1 rfl (k.at_ Z).int c)) (Wp b rfl (fun _ => R.eq rfl rfl) (Wp a rfl (fun _ => R.pk b rfl (v := vB ((ay : Int) == (az : Int))) rfl) (Mw.p rfl rfl (fun _ => R.pk a rfl (v := vB ((ay : Int) == (az : Int))) rfl) (Db rfl (bs hm (fun x hm => ?_) fun x hm => ?_))))))
      ·exact dps 4 x rfl (Mw.p rfl rfl (fun _ => R.pk x rfl (v := vB true) rfl) (Db rfl (dps 4 rfl rfl (Mw.p rfl rfl (fun _ => R.pk rfl rfl (v := vB true) rfl) (Mw.nil ((ag) ⟨true, ax, rfl, h, rfl, hm⟩))))))
      ·refine Wp x rfl (fun _ => R.fa rfl) (Wq x rfl (fun _ c => R.ld (v := vS A.Who) rfl rfl (i.clc rfl rfl c)) ?_)
       obtain ⟨bn, bp, hm⟩ := ob hm
       refine Wt x rfl (T.call rfl (p84   bp)) ?_
       rintro _ _ ⟨bq, rfl, N, rfl⟩
       have a0 := N.o
       refine m0 N fun br => Wp x rfl (fun _ => R.not rfl) (Mw.p rfl rfl (fun _ => R.pk x rfl (v := vB (!bn)) rfl) (Db rfl (bs hm (fun y hm => ?_) fun y hm => ?_)))
       ·exact dps 4 y rfl (Mw.p rfl rfl (fun _ => R.pk y rfl (v := vB true) rfl) (Mw.nil ((ag) ⟨true, bq, rfl, (h.j N).w, rfl, hm⟩)))
       ·refine Wp y rfl (fun _ => R.fa rfl) (Wq y rfl (fun _ c => R.ld (v := an) rfl rfl (i.clc rfl rfl c)) ?_)
        obtain ⟨a1, bu, hm⟩ := ob hm
        refine Wt y rfl (T.call rfl (p85  (r25.ul (((e.trans f).trans F).trans a0)) (ae.ul ((((d.trans e).trans f).trans F).trans a0)) bu)) ?_
        rintro _ _ ⟨bv, rfl, a3, rfl⟩
        exact mc br a3 fun cf => Wp y rfl (fun _ => R.not rfl) (Mw.p rfl rfl (fun _ => R.pk y rfl (v := vB (!a1)) rfl) (Mw.nil ((ag) ⟨(!a1), bv, rfl, ((h.j N).j a3).w, rfl, hm⟩)))
     ·refine dps 9 b rfl (Wp a rfl (fun _ => R.pk b rfl (v := vB false) rfl) (Mw.p rfl rfl (fun _ => R.pk a rfl (v := vB false) rfl) (Db rfl (Wp rfl rfl (fun _ => R.fa rfl) (Wq rfl rfl (fun _ c => R.ld (v := vS A.Who) rfl rfl (i.clc rfl rfl c)) ?_)))))
      obtain ⟨bw, bz, hm⟩ := ob hm
      refine Wt rfl rfl (T.call rfl (p84   bz)) ?_
      rintro _ _ ⟨b0, rfl, O, rfl⟩
      have a4 := O.o
      refine m0 O fun b2 => Wp rfl rfl (fun _ => R.not rfl) (Mw.p rfl rfl (fun _ => R.pk rfl rfl (v := vB (!bw)) rfl) (Db rfl (bs hm (fun z hm => ?_) fun z hm => ?_)))
      ·exact dps 4 z rfl (Mw.p rfl rfl (fun _ => R.pk z rfl (v := vB true) rfl) (Mw.nil ((ag) ⟨true, b0, rfl, (h.j O).w, rfl, hm⟩)))
      ·refine Wp z rfl (fun _ => R.fa rfl) (Wq z rfl (fun _ c => R.ld (v := an) rfl rfl (i.clc rfl rfl c)) ?_)
       obtain ⟨a5, b3, hm⟩ := ob hm
       refine Wt z rfl (T.call rfl (p85  (r25.ul (((e.trans f).trans F).trans a4)) (ae.ul ((((d.trans e).trans f).trans F).trans a4)) b3)) ?_
       rintro _ _ ⟨b4, rfl, a6, rfl⟩
       exact mc b2 a6 fun cg => Wp z rfl (fun _ => R.not rfl) (Mw.p rfl rfl (fun _ => R.pk z rfl (v := vB (!a5)) rfl) (Mw.nil ((ag) ⟨(!a5), b4, rfl, ((h.j O).j a6).w, rfl, hm⟩)))
  ·refine Cw.exit ?_
   rw [ba] at hm
   refine sr (la (G.up l10) (fl (G.up l10) rfl (ca hm (fun _ => p87 (Repo.rd (K := [0]) x0.Commits x0.Heads (C.ul d) (ah.ul d)) (ah.ul d)) fun ch ci hm b5 => ?_)))
   have b6 := d.n b5
   exact Nb rfl (.ret (rt hm b6))
theorem p22 {x0 a b r} (d : Rd W K [a, b] x0) (f : Gl 0 W K) (hm : Vm.zeG x0 = some r) : Q1 22 [.agg [a, b].toArray] W [] fun W' v => v = vB r :=
 (c22 (d.view _) (f.view _) hm).ad (fk 0) fun _ _ e => e
theorem c65 {x0 h i x1 r} (F : Rd W0 [0] [h, i] x0) (hm : Vm.zcz x0 x1 = some r) : Q0 65 [.agg [h, i].toArray, vS x1] W0 fun Wf v => v = vI r := by
 unfold Vm.zcz at hm
 obtain ⟨P, Q, k, S, e⟩ := Repo.split F
 simp only [List.cons.injEq, and_true, true_and] at k
 obtain ⟨rfl, rfl⟩ := k
 refine zaj.of Tryz.func65 rfl rfl rfl rfl (sr (bo 2 rfl fun T x G H => ?_))
 have y := G.o
 refine Ni rfl (ssr (fl H rfl (Lw.ln x0.Heads (e.ul y) rfl (mi rfl (nl (Cw.block ?_))))))
 obtain ⟨I, J, hm⟩ := zaS hm
 refine Cw.loop 10 20 [4, 6, 10] (fun m l w => ∃ a b z f, CW.w f = w ∧ Le [3] x f ∧ l = [vI a, z, vI b] ∧ Vm.zbT x0 x1 I m a b = some r) _ ⟨0, 0, undef, x, rfl, Le.refl _ _, rfl, hm⟩ ?_
 rintro (_ | U) _ _ σ ⟨a, b, z, f, rfl, A, rfl, hm⟩
 ·cases hm
 unfold Vm.zbT at hm
 have d := y.t A
 refine sr (Lw.lt rfl (nl (Cw.seq (cn hm (fun hm => ?_) fun hm => ?_))))
 ·refine sk (Cw.seq (Cw.block (sr ?_)))
  obtain ⟨V, B, hm⟩ := ob hm
  refine Lw.r rfl (R.ix (α := Head) (e.ul d) B rfl rfl rfl) ?_
  obtain ⟨x16, c17, _, r18⟩ := ((e.ul d).at_ B).cells
  obtain rfl := Head.split r18
  refine Lw.r rfl (R.lda c17 rfl rfl) (al 3 [vS ([] : Str), vI 0] fun K W C L => ?_)
  have M := d.n C
  refine sta L (zaa rfl (zaa rfl zaR)) fun N D E => ?_
  have O := M.t D
  refine nl (sr (fl E rfl (ms rfl (Lw.seq rfl (nl (cn hm (fun hm => ?_) fun hm => ?_))))))
  ·exact sr (fl E rfl (Ni rfl (.ret (rt hm O))))
  ·exact sk (rg (Lw.add rfl (mi rfl (nl ((agm) ⟨a, w64 (b + 1), ptr (bx K), N, rfl, ((A.j C).j D).w, rfl, hm⟩)))))
 ·refine Cw.exit ?_
  rw [J] at hm
  exact sr (Ni rfl (.ret (rt hm d)))
theorem p65 {x0 a b x1 r} (d : Rd W K [a, b] x0) (hm : Vm.zcz x0 x1 = some r) : Q1 65 [.agg [a, b].toArray, vS x1] W [] fun W' v => v = vI r :=
 (c65 (d.view _) hm).ad (fk 0) fun _ _ e => e
theorem c144 {x0 a r} (f : Rd W0 [0] [a] x0) (hm : Vm.zbu x0 = some r) : Q0 144 [a] W0 fun Wf v => ∃ b, v = b ∧ OwS Wf LL [] [b] r := by
 unfold Vm.zbu at hm
 refine zaj.of Tryz.func144 rfl rfl rfl rfl (sr (Nv (.slice none 0 0) rfl (sr (Lw.t rfl (T.lit0 (α := Str) 2 []) ?_))))
 rintro A _ ⟨B, rfl, h, i⟩
 have d := h.o
 refine mv a rfl ?_
 obtain ⟨C, k, hm⟩ := ob hm
 refine Lw.t rfl (T.appP (α := Str) i (f.ul d) rfl rfl k) ?_
 rintro e _ ⟨D, rfl, x, y⟩
 have z := d.t x
 refine Nv e rfl ?_
 cases hm
 exact Cw.ret (zhB rfl (Res.mk z ⟨e, rfl, y.s.sub rfl rfl⟩))
theorem p144 {x0 b k0 r} (d : Rd W K [b] x0) (hm : Vm.zbu x0 = some r) : Q1 144 [b] W [] fun W' v => ∃ a, v = a ∧ Ow W' k0 [] [a] r :=
 (c144 (d.view _) hm).ad (fk k0) fun _ _ ⟨a, e, f⟩ => ⟨a, e, f.back (zfR _)⟩
theorem c89 {x0 H I x1 r} (Z : Rd W0 [0] [H, I] x0) (hm : Vm.zaU x0 x1 = some r) : Q0 89 [.agg [H, I].toArray, vI x1] W0 fun Wf v => ∃ J, v = J ∧ OwS Wf LL [] [J] r := by
 unfold Vm.zaU at hm
 obtain ⟨a0, a1, K, A, a3⟩ := Repo.split Z
 simp only [List.cons.injEq, and_true, true_and] at K
 obtain ⟨rfl, rfl⟩ := K
 refine zaj.of Tryz.func89 rfl rfl rfl rfl (sr (bo 2 rfl fun g1 W1 l1 L => ?_))
 have M := l1.o
 refine Nv (.slice none 0 0) rfl (sr (fl L rfl (Lw.ln x0.Commits (A.ul M) rfl ?_)))
 obtain ⟨q4, e5, hm⟩ := ob hm
 refine Lw.t rfl (T.mk (α := Bool) 3 [] (n := (x0.Commits.length : Int)) rfl rfl e5) ?_
 rintro a _ ⟨W6, rfl, N, O⟩
 have a7 := M.n N
 refine Nv a rfl (sr (mv a rfl (mi rfl ?_)))
 obtain ⟨u9, af, hm⟩ := ob hm
 refine Lw.r rfl (R.ix (α := Bool) O.rd af rfl rfl rfl) ?_
 obtain ⟨ah, ai, hm⟩ := ob hm
 refine Lw.u (T.stS (K' := []) O (rdB _) ai rfl rfl rfl) ?_
 rintro _ _ ⟨P, rfl, Q, aj⟩
 have ak := a7.t Q
 refine nl (ssr (mi rfl (Ni rfl (Cw.block ?_))))
 obtain ⟨am, an, hm⟩ := zaS hm
 refine Cw.loop 17 39 [6, 8] (fun m l w => ∃ i d k b, CW.w b = w ∧ Le [3] P b ∧ l = [vI i, k] ∧ Ow b 3 [] [a] d ∧ Vm.zaE x0 am m i d = some r) _ ⟨x1, ah, undef, P, rfl, Le.refl _ _, rfl, aj, hm⟩ ?_
 rintro (_ | ba) _ _ σ ⟨i, d, k, b, rfl, B, rfl, e, hm⟩
 ·cases hm
 unfold Vm.zaE at hm
 have C := ak.t B
 refine ssr (mi rfl (Lw.ge rfl (nl (cn hm (fun hm => ?_) fun hm => ?_))))
 ·refine sk ?_
  obtain ⟨S, ao, hm⟩ := zaS hm
  refine Cw.join 21 39 [8] (fun l w => ∃ x D f, CW.w f = w ∧ Le [3] b f ∧ l = [D] ∧ Ow f 3 [] [a] x ∧ S x = some r) ?_ ?_
  ·rintro _ _ σ ⟨x, D, f, rfl, ap, rfl, aq, hm⟩
   rw [ao] at hm
   exact rg (mi rfl (Lw.sub rfl (Ni rfl ((agm) ⟨w64 (i - 1), x, D, f, rfl, (B.j ap).w, rfl, aq, hm⟩))))
  ·refine Cw.block (sr (mv a rfl (mi rfl ?_)))
   obtain ⟨bb, U, hm⟩ := ob hm
   refine Lw.r rfl (R.ix (α := Bool) e.rd U rfl rfl rfl) (Lw.r rfl (R.ld rfl rfl (e.rd.at_ U).bool) (nl (cn hm (fun hm => ?_) fun hm => ?_)))
   ·refine sr (fl (((L.up N).up Q).up B) rfl (mi rfl ?_))
    obtain ⟨V, W, hm⟩ := ob hm
    refine Lw.r rfl (R.ix (α := Commit) (A.ul C) W rfl rfl rfl) (Lw.fa rfl ?_)
    obtain ⟨bc, c40, r41⟩ := (Commit.at0 ((A.ul C).at_ W)).cell rfl
    refine Lw.r rfl (R.ld rfl rfl c40) (Lw.ln V.Parents r41 rfl (mi rfl (nl (Cw.block (Cw.loop 32 39 [8, 32] (fun m l w => ∃ y z E h, CW.w h = w ∧ Le [3] b h ∧ l = [E, vI y] ∧ Ow h 3 [] [a] z ∧ Vm.zaK S V m y z = some r) _ ⟨0, d, k, b, rfl, Le.refl _ _, rfl, e, hm⟩ ?_)))))
    rintro (_ | be) _ _ σ ⟨y, z, E, h, rfl, F, rfl, G, hm⟩
    ·cases hm
    unfold Vm.zaK at hm
    have X := F.s
    refine sr (Lw.lt rfl (nl (Cw.seq (cn hm (fun hm => ?_) fun hm => ?_))))
    ·refine sk (Cw.seq (Cw.block (sr ?_)))
     obtain ⟨ar, Y, hm⟩ := ob hm
     refine Lw.r rfl (R.ix (α := Int) (r41.ul X) Y rfl rfl rfl) (Lw.r rfl (R.ld rfl rfl ((r41.ul X).at_ Y).int) (Ni rfl (rg (mv a rfl (mi rfl ?_)))))
     obtain ⟨bg, au, hm⟩ := ob hm
     refine Lw.r rfl (R.ix (α := Bool) G.rd au rfl rfl rfl) ?_
     obtain ⟨av, aw, hm⟩ := ob hm
     refine Lw.u (T.stS (K' := []) G (rdB _) aw rfl rfl rfl) ?_
     rintro _ _ ⟨ax, rfl, ay, az⟩
     exact nl (rg (Lw.add rfl (mi rfl (nl ((agm) ⟨w64 (y + 1), av, vI ar, ax, rfl, (F.j ay).w, rfl, az, hm⟩)))))
    ·exact Cw.exit ((ag) ⟨z, E, h, rfl, F, rfl, G, hm⟩)
   ·exact sk ((ag) ⟨d, k, b, rfl, Le.refl _ _, rfl, e, hm⟩)
 ·refine Cw.exit ?_
  rw [an] at hm
  refine sr (mv a rfl (Nv a rfl ?_))
  cases hm
  exact Cw.ret (zhB rfl (Res.mk C ⟨a, rfl, e.s.sub rfl rfl⟩))
theorem p89 {x0 b d x1 k0 r} (f : Rd W K [b, d] x0) (hm : Vm.zaU x0 x1 = some r) : Q1 89 [.agg [b, d].toArray, vI x1] W [] fun W' v => ∃ a, v = a ∧ Ow W' k0 [] [a] r :=
 (c89 (f.view _) hm).ad (fk k0) fun _ _ ⟨a, e, h⟩ => ⟨a, e, h.back (zfR _)⟩
theorem c127 {x0 k r} (x : Rd W0 [0] [k] x0) (hm : Vm.za9 x0 = some r) : Q0 127 [k] W0 fun Wf v => ∃ C, v = C ∧ OwS Wf LL [] [C] r := by
 unfold Vm.za9 at hm
 refine zaj.of Tryz.func127 rfl rfl rfl rfl (sr (Nv (.slice none 0 0) rfl (sr (Nv (.slice none 0 0) rfl (ssr (mv k rfl (Lw.ln x0 x rfl (mi rfl (nl (Cw.block ?_))))))))))
 obtain ⟨K, L, hm⟩ := zaS hm
 refine Cw.loop 8 18 [3, 4, 5, 8] (fun m l w => ∃ f a b D E d, CW.w d = w ∧ Le [2] W0 d ∧ l = [b, D, E, vI a] ∧ Ow d 2 [] [b] f ∧ Vm.zcq x0 K m f a = some r) _ ⟨([] : List Int), 0, .slice none 0 0, undef, undef, W0, rfl, Le.refl _ _, rfl, owN 2 [], hm⟩ ?_
 rintro (_ | Y) _ _ σ ⟨f, a, b, D, E, d, rfl, F, rfl, y, hm⟩
 ·cases hm
 unfold Vm.zcq at hm
 have z := F.s
 refine sr (Lw.lt rfl (nl (Cw.seq (cn hm (fun hm => ?_) fun hm => ?_))))
 ·refine sk ?_
  obtain ⟨M, N, hm⟩ := zaS hm
  refine Cw.join 10 17 [3, 4, 5] (fun l w => ∃ h i A B e, CW.w e = w ∧ Le [2] d e ∧ l = [i, A, B] ∧ Ow e 2 [] [i] h ∧ M h = some r) ?_ ?_
  ·rintro _ _ σ ⟨h, i, A, B, e, rfl, O, rfl, P, hm⟩
   rw [N] at hm
   exact rg (Lw.add rfl (mi rfl (nl ((agm) ⟨h, w64 (a + 1), i, A, B, e, rfl, (F.j O).w, rfl, P, hm⟩))))
  ·refine Cw.block (sr (mi rfl ?_))
   obtain ⟨G, H, hm⟩ := ob hm
   refine Lw.r rfl (R.ix (α := Bool) (x.ul z) H rfl rfl rfl) (Lw.r rfl (R.ld rfl rfl ((x.ul z).at_ H).bool) (Gi rfl (Nb rfl (sr (mb rfl (nl (cn hm (fun hm => ?_) fun hm => ?_)))))))
   ·refine rg (mv b rfl (mi rfl (Lw.t rfl (T.bs 3 [vI a] (cs := [vI a]) rfl rfl (bsv rfl)) ?_)))
    rintro _ _ ⟨Z, aa, rfl, rfl, I, Q⟩
    obtain ⟨S, U, hm⟩ := ob hm
    refine Lw.t rfl (T.app1S (α := Int) (K' := []) (y.up I) Q (rdI _) rfl rfl U) ?_
    rintro J _ ⟨V, rfl, W, X⟩
    exact Nv J rfl ((ag) ⟨S, J, vI a, vB G, V, rfl, (I.j W).w, rfl, X, hm⟩)
   ·exact sk ((ag) ⟨f, b, vI a, vB G, d, rfl, Le.refl _ _, rfl, y, hm⟩)
 ·refine Cw.exit ?_
  rw [L] at hm
  refine sr (mv b rfl (Nv b rfl ?_))
  cases hm
  exact Cw.ret (zhB rfl (Res.mk z ⟨b, rfl, y.s.sub rfl rfl⟩))
theorem p127 {x0 b k0 r} (d : Rd W K [b] x0) (hm : Vm.za9 x0 = some r) : Q1 127 [b] W [] fun W' v => ∃ a, v = a ∧ Ow W' k0 [] [a] r :=
 (c127 (d.view _) hm).ad (fk k0) fun _ _ ⟨a, e, f⟩ => ⟨a, e, f.back (zfR _)⟩
theorem c80 {x0 b d x1 r} (x : Rd W0 [0] [b, d] x0) (hm : Vm.zaF x0 x1 = some r) : Q0 80 [.agg [b, d].toArray, vI x1] W0 fun Wf v => ∃ e, v = e ∧ Rd Wf [0] [e] r := by
 unfold Vm.zaF at hm
 obtain ⟨A, B, f, h, C⟩ := Repo.split x
 simp only [List.cons.injEq, and_true, true_and] at f
 obtain ⟨rfl, rfl⟩ := f
 refine zaj.of Tryz.func80 rfl rfl rfl rfl (sr (bo 2 rfl fun D E y z => ?_))
 have a := y.o
 refine Nv (.slice none 0 0) rfl (ssr (mi rfl (Lw.lt rfl (nl (cn hm (fun hm => ?_) fun hm => ?_)))))
 ·refine sr (Nv (.slice none 0 0) rfl ?_)
  cases hm
  exact Cw.ret (zhB rfl (Res.mk a ⟨.slice none 0 0, rfl, (rdN (K := [0]))⟩))
 ·refine sk (sr (fl z rfl (mi rfl ?_)))
  obtain ⟨F, i, hm⟩ := ob hm
  refine Lw.r rfl (R.ix (α := Commit) (h.ul a) i rfl rfl rfl) (Lw.fa rfl ?_)
  obtain ⟨k, c8, r9⟩ := (Commit.at2 ((h.ul a).at_ i)).cell rfl
  refine Lw.r rfl (R.ld rfl rfl c8) (Nv k rfl ?_)
  cases hm
  exact Cw.ret (zhB rfl (Res.mk a ⟨k, rfl, r9⟩))
theorem p80 {x0 b d x1 r} (f : Rd W K [b, d] x0) (hm : Vm.zaF x0 x1 = some r) : Q1 80 [.agg [b, d].toArray, vI x1] W [] fun W' v => ∃ a, v = a ∧ Rd W' (0 :: K) [a] r :=
 (c80 (f.view _) hm).ad (fk 0) fun _ _ ⟨a, e, h⟩ => ⟨a, e, h.back rfl⟩
theorem c151 {x0 i x1 r} (k : Rd W0 [0] [i] x0) (hm : Vm.zge x0 x1 = some r) : Q0 151 [i, vS x1] W0 fun Wf v => ∃ z, v = .tuple [z, vB r.2].toArray ∧ OwS Wf LL [] [z] r.1 := by
 unfold Vm.zge at hm
 refine zaj.of Tryz.func151 rfl rfl rfl rfl (sr (Gv (.slice none 0 0) rfl (Nb rfl (ssr (mv i rfl (Lw.ln x0 k rfl (mi rfl (nl (Cw.block ?_)))))))))
 obtain ⟨H, I, hm⟩ := zaS hm
 refine Cw.loop 10 21 [4, 5, 7, 10] (fun m l w => ∃ a b d e A f, CW.w f = w ∧ Le [3] W0 f ∧ l = [e, vB b, A, vI d] ∧ Ow f 2 [] [e] a ∧ Vm.zcZ x0 x1 H m a b d = some r) _ ⟨([] : List Str), false, 0, .slice none 0 0, undef, W0, rfl, Le.refl _ _, rfl, owN 2 [], hm⟩ ?_
 rintro (_ | Q) _ _ σ ⟨a, b, d, e, A, f, rfl, B, rfl, J, hm⟩
 ·cases hm
 unfold Vm.zcZ at hm
 have h := B.s
 refine sr (Lw.lt rfl (nl (Cw.seq (cn hm (fun hm => ?_) fun hm => ?_))))
 ·refine sk (Cw.seq (Cw.block (sr ?_)))
  obtain ⟨S, C, hm⟩ := ob hm
  refine Lw.r rfl (R.ix (α := File) (k.ul h) C rfl rfl rfl) ?_
  obtain ⟨x15, c16, _, r17⟩ := ((k.ul h).at_ C).cells
  obtain ⟨T, rfl, r19⟩ := File.split r17
  refine Lw.r rfl (R.lda c16 rfl rfl) (al 3 [vS ([] : Str), .slice none 0 0] fun K U x L => ?_)
  have D := x.o
  refine sta L (zaa rfl (zaa r19.oc zaR)) fun M y E => ?_
  have F := y.s
  refine nl (sr (fl E rfl (ms rfl (Lw.seq rfl (nl (cn hm (fun hm => ?_) fun hm => ?_))))))
  ·refine sr (fl E rfl (cr hm (fun _ => p144 (k0 := 4) (r19.ul (D.trans F))) ?_))
   rintro V G W hm N ⟨_, rfl, O⟩
   have P := ((h.trans D).trans F).n N
   refine Gv G rfl (Nb rfl ?_)
   cases hm
   exact Cw.ret (zoI rfl rfl (Res.mk P ⟨G, rfl, O.s.sub rfl rfl⟩))
  ·exact sk (rg (Lw.add rfl (mi rfl (nl ((agm) ⟨a, b, w64 (d + 1), e, ptr (bx K), M, rfl, ((B.j x).j y).w, rfl, ((J.up x).up y), hm⟩)))))
 ·refine Cw.exit ?_
  rw [I] at hm
  refine sr (Gv (.slice none 0 0) rfl (Nb rfl ?_))
  cases hm
  exact Cw.ret (zoI rfl rfl (Res.mk h ⟨.slice none 0 0, rfl, (zm5 []).sub rfl rfl⟩))
theorem p151 {x0 b x1 k0 r} (d : Rd W K [b] x0) (hm : Vm.zge x0 x1 = some r) : Q1 151 [b, vS x1] W [] fun W' v => ∃ a, v = .tuple [a, vB r.2].toArray ∧ Ow W' k0 [] [a] r.1 :=
 (c151 (d.view _) hm).ad (fk k0) fun _ _ ⟨a, e, f⟩ => ⟨a, e, f.back (zfR _)⟩
theorem c152 {x0 b x1 f r} (d : Rd W0 [0] [b] x0) (h : Rd W0 [0] [f] x1) (hm : Vm.zaw x0 x1 = some r) : Q0 152 [b, f] W0 fun Wf v => v = vB r := by
 unfold Vm.zaw at hm
 refine zaj.of Tryz.func152 rfl rfl rfl rfl (sr (Nb rfl (ssr (mv b rfl (Lw.ln x0 d rfl (mv f rfl (Lw.ln x1 h rfl (Lw.ne rfl (nl (cn hm (fun hm => ?_) fun hm => ?_))))))))))
 ·exact sr (Nb rfl (.ret (rt hm (Le.refl _ _))))
 ·refine sk (ssr (mv b rfl (Lw.ln x0 d rfl (mi rfl (nl (Cw.block ?_))))))
  obtain ⟨C, D, hm⟩ := zaS hm
  refine Cw.loop 13 25 [4, 5, 13] (fun m l w => ∃ i e z k, CW.w k = w ∧ Le [] W0 k ∧ l = [vB i, z, vI e] ∧ Vm.zax x0 x1 C m i e = some r) _ ⟨false, 0, undef, W0, rfl, Le.refl _ _, rfl, hm⟩ ?_
  rintro (_ | F) _ _ σ ⟨i, e, z, k, rfl, A, rfl, hm⟩
  ·cases hm
  unfold Vm.zax at hm
  have B := A.o
  refine sr (Lw.lt rfl (nl (Cw.seq (cn hm (fun hm => ?_) fun hm => ?_))))
  ·refine sk (Cw.seq (Cw.block (sr (mi rfl (Ni rfl (Cw.seq (Cw.draw [] [(0, 0), (1, 0), (2, 0), (3, 1), (4, 0), (5, 0), (6, 0), (7, 1), (8, 0)] mixed (by kernel_rfl) fun E l10 => ?_)))))))
   have a := B.n l10
   refine Dv b rfl (Di rfl ?_)
   obtain ⟨G, x, hm⟩ := ob hm
   refine Mw.p rfl rfl (fun _ => R.ix (α := Str) (d.ul a) x rfl rfl rfl) (Mw.q rfl rfl (fun _ c => R.ld rfl rfl (zah ((d.ul a).at_ x).1 rfl ((d.ul a).at_ x).str c)) (Dv f rfl (Di rfl ?_)))
   obtain ⟨H, y, hm⟩ := ob hm
   refine Mw.p rfl rfl (fun _ => R.ix (α := Str) (h.ul a) y rfl rfl rfl) (Mw.q rfl rfl (fun _ c => R.ld rfl rfl (zah ((h.ul a).at_ y).1 rfl ((h.ul a).at_ y).str c)) (Mw.p rfl rfl (fun _ => R.sne rfl rfl) (Mw.nil (cn hm (fun hm => ?_) fun hm => ?_))))
   ·exact sr (Nb rfl (.ret (rt hm a)))
   ·exact sk (rg (Lw.add rfl (mi rfl (nl ((agm) ⟨i, w64 (e + 1), vI e, E, rfl, (A.j l10).w, rfl, hm⟩)))))
  ·refine Cw.exit ?_
   rw [D] at hm
   exact sr (Nb rfl (.ret (rt hm B)))
theorem p152 {x0 a x1 b r} (d : Rd W K [a] x0) (f : Rd W K [b] x1) (hm : Vm.zaw x0 x1 = some r) : Q1 152 [a, b] W [] fun W' v => v = vB r :=
 (c152 (d.view _) (f.view _) hm).ad (fk 0) fun _ _ e => e
theorem c217 {x0 k x1 x r} (y : Rd W0 [0] [k] x0) (z : Rd W0 [0] [x] x1) (hm : Vm.zi4 x0 x1 = some r) : Q0 217 [k, x] W0 fun Wf v => ∃ u0, v = u0 ∧ OwS Wf LL [] [u0] r := by
 unfold Vm.zi4 at hm
 refine zaj.of Tryz.func217 rfl rfl rfl rfl (sr (Nv (.slice none 0 0) rfl (sr (mv k rfl (Lw.ln x0 y rfl (Lw.add rfl ?_))))))
 obtain ⟨M, e2, hm⟩ := ob hm
 refine Lw.t rfl (T.mk (α := List Int) 2 [] (n := w64 ((x0.length : Int) + 1)) rfl rfl e2) ?_
 rintro a _ ⟨W3, rfl, l3, o3⟩
 have a4 := l3.o
 refine Nv a rfl (ssr (mv a rfl (Lw.ln M o3.rd rfl (mi rfl (nl (Cw.block ?_))))))
 obtain ⟨a1, a2, hm⟩ := zaS hm
 refine Cw.loop 15 25 [6, 15] (fun m l w => ∃ A F j5 e, CW.w e = w ∧ Le [2, 3] W3 e ∧ l = [j5, vI A] ∧ Ow e 2 [] [a] F ∧ Vm.zd6 x1 M a1 m A F = some r) _ ⟨0, M, undef, W3, rfl, Le.refl _ _, rfl, o3, hm⟩ ?_
 rintro (_ | ce) _ _ σ ⟨A, F, j5, e, rfl, l9, rfl, N, hm⟩
 ·cases hm
 unfold Vm.zd6 at hm
 have O := a4.t l9
 refine sr (Lw.lt rfl (nl (Cw.seq (cn hm (fun hm => ?_) fun hm => ?_))))
 ·refine sk (Cw.seq (Cw.block (sr (mi rfl (Ni rfl (rg (mv a rfl (mi rfl (mv x rfl (Lw.ln x1 (z.ul O) rfl (Lw.add rfl ?_)))))))))))
  obtain ⟨cf, a3, hm⟩ := ob hm
  refine Lw.t rfl (T.mk (α := Int) 3 [] (n := w64 ((x1.length : Int) + 1)) rfl rfl a3) ?_
  rintro cg _ ⟨ch, rfl, P, am⟩
  obtain ⟨ci, a5, hm⟩ := ob hm
  refine Lw.r rfl (R.ix (α := List Int) (N.up P).rd a5 rfl rfl rfl) ?_
  obtain ⟨a6, a7, hm⟩ := ob hm
  refine Lw.u (T.stO (J := [3]) (N.up P) am.s a7 rfl rfl (zqe am.oc)) ?_
  rintro _ _ ⟨a8, rfl, a9, ba⟩
  exact nl (rg (Lw.add rfl (mi rfl (nl ((agm) ⟨w64 (A + 1), a6, vI A, a8, rfl, ((l9.j P).j a9).w, rfl, ba, hm⟩)))))
 ·refine Cw.exit ?_
  rw [a2] at hm
  refine ssr (mv k rfl (Lw.ln x0 (y.ul O) rfl (Lw.sub rfl (Ni rfl (Cw.block ?_)))))
  obtain ⟨bb, bc, hm⟩ := zaS hm
  refine Cw.loop 29 87 [7, 8] (fun m l w => ∃ B G an f, CW.w f = w ∧ Le [2, 4, 5] e f ∧ l = [vI B, an] ∧ Ow f 2 [] [a] G ∧ Vm.zc0 x0 x1 bb m B G = some r) _ ⟨w64 ((x0.length : Int) - 1), F, undef, e, rfl, Le.refl _ _, rfl, N, hm⟩ ?_
  rintro (_ | cj) _ _ σ ⟨B, G, an, f, rfl, ao, rfl, ap, hm⟩
  ·cases hm
  unfold Vm.zc0 at hm
  have Q := O.t ao
  refine ssr (mi rfl (Lw.ge rfl (nl (cn hm (fun hm => ?_) fun hm => ?_))))
  ·refine sk (Cw.seq (Cw.block (sr (mv x rfl (Lw.ln x1 (z.ul Q) rfl (Lw.sub rfl (Ni rfl (Cw.block ?_))))))))
   obtain ⟨be, bg, hm⟩ := zaS hm
   refine Cw.loop 36 87 [8] (fun m l w => ∃ C H h, CW.w h = w ∧ Le [2, 4, 5] f h ∧ l = [vI C] ∧ Ow h 2 [] [a] H ∧ Vm.zd5 x0 x1 B be m C H = some r) _ ⟨w64 ((x1.length : Int) - 1), G, f, rfl, Le.refl _ _, rfl, ap, hm⟩ ?_
   rintro (_ | ck) _ _ σ ⟨C, H, h, rfl, S, rfl, U, hm⟩
   ·cases hm
   unfold Vm.zd5 at hm
   have bh := Q.t S
   refine ssr (mi rfl (Lw.ge rfl (nl (cn hm (fun hm => ?_) fun hm => ?_))))
   ·refine sk ?_
    obtain ⟨bi, bj, hm⟩ := zaS hm
    refine Cw.join 40 87 [] (fun l w => ∃ I D, CW.w D = w ∧ Le [2, 4, 5] h D ∧ l = [] ∧ Ow D 2 [] [a] I ∧ bi I = some r) ?_ ?_
    ·rintro _ _ σ ⟨I, D, rfl, bk, rfl, bl, hm⟩
     rw [bj] at hm
     exact rg (mi rfl (Lw.sub rfl (Ni rfl ((agm) ⟨w64 (C - 1), I, D, rfl, (S.j bk).w, rfl, bl, hm⟩))))
    ·refine Cw.block (Cw.seq (Cw.draw [] [(0, 0), (1, 0), (2, 0), (3, 1), (4, 0), (5, 0), (6, 0), (7, 1), (8, 0)] mixed (by kernel_rfl) fun cl E => ?_))
     have i := bh.n E
     refine Dv k rfl (Di rfl ?_)
     obtain ⟨cm, V, hm⟩ := ob hm
     refine Mw.p rfl rfl (fun _ => R.ix (α := Str) (y.ul i) V rfl rfl rfl) (Mw.q rfl rfl (fun _ c => R.ld rfl rfl (zah ((y.ul i).at_ V).1 rfl ((y.ul i).at_ V).str c)) (Dv x rfl (Di rfl ?_)))
     obtain ⟨co, W, hm⟩ := ob hm
     refine Mw.p rfl rfl (fun _ => R.ix (α := Str) (z.ul i) W rfl rfl rfl) (Mw.q rfl rfl (fun _ c => R.ld rfl rfl (zah ((z.ul i).at_ W).1 rfl ((z.ul i).at_ W).str c)) (Mw.p rfl rfl (fun _ => R.seq rfl rfl) (Mw.nil (cn hm (fun hm => ?_) fun hm => ?_))))
     ·refine Cw.draw [] [(0, 0), (1, 0), (2, 0), (3, 1), (4, 0), (5, 0), (6, 0), (7, 0), (8, 0), (9, 1), (10, 0), (11, 0), (12, 0), (13, 1), (14, 0), (15, 0), (16, 3)] mixed (by kernel_rfl) fun cp aq => ?_
      have d := (U.up E).up aq
      refine Dv a rfl (Di rfl ?_)
      obtain ⟨cq, K, hm⟩ := ob hm
      refine Mw.p rfl rfl (fun _ => R.ix (α := List Int) d.rd K rfl rfl rfl) ?_
      obtain ⟨cs, c66, r67⟩ := (d.rd.at_ K).cell rfl
      refine Mw.q rfl rfl (fun _ c => R.ld rfl rfl (zah (d.rd.at_ K).1 rfl c66 c)) (Di rfl (Dv a rfl (Di rfl (Mw.p rfl rfl (fun _ => R.add rfl rfl) ?_))))
      obtain ⟨ct, X, hm⟩ := ob hm
      refine Mw.p rfl rfl (fun _ => R.ix (α := List Int) d.rd X rfl rfl rfl) ?_
      obtain ⟨cu, c71, r72⟩ := (d.rd.at_ X).cell rfl
      refine Mw.q rfl rfl (fun _ c => R.ld rfl rfl (zah (d.rd.at_ X).1 rfl c71 c)) (Di rfl (Mw.p rfl rfl (fun _ => R.add rfl rfl) ?_))
      obtain ⟨cv, Y, hm⟩ := ob hm
      refine Mw.p rfl rfl (fun _ => R.ix (α := Int) r72 Y rfl rfl rfl) (Mw.q rfl rfl (fun _ c => R.ld rfl rfl (zah (r72.at_ Y).1 rfl (r72.at_ Y).int c)) (Mw.p rfl rfl (fun _ => R.add rfl rfl) ?_))
      obtain ⟨cw, bm, hm⟩ := ob hm
      refine Mw.p rfl rfl (fun _ => R.ix (α := Int) r67 bm rfl rfl rfl) ?_
      obtain ⟨cx, bn, bp, bq, gb77⟩ := Ow.lend (α := List Int) (β := List Int) (j := 4) (jf := 0) d K (by rw [ziu]; exact c66) rfl
      rw [← bn]
      obtain ⟨cy, br, hm⟩ := ob hm
      refine Mw.lu rfl (T.stS (K' := []) bq (rdI _) br rfl rfl rfl) ?_
      rintro _ _ ⟨cz, rfl, ar, bu⟩
      obtain ⟨bv, bw, bz, b0, eq84, b1⟩ := gb77 _ _ ar bu
      obtain ⟨au, eqm84, hm⟩ := ob hm
      obtain rfl : au = b0 := Option.some.inj (eqm84.symm.trans eq84)
      rw [← bw]
      exact Mw.nil ((ag) ⟨au, bv, rfl, ((((E.j aq).j bp).j ar).j bz).w, rfl, b1, hm⟩)
     ·refine Cw.draw [] [(0, 0), (1, 0), (2, 0), (3, 1), (4, 0), (5, 0), (6, 0), (7, 0), (8, 0), (9, 1), (10, 0), (11, 0), (12, 1), (13, 0), (14, 0), (15, 0), (16, 1), (17, 0), (18, 0), (19, 0), (20, 1), (21, 0), (22, 0), (23, 3)] mixed (by kernel_rfl) fun c0 av => ?_
      have b := (U.up E).up av
      refine Dv a rfl (Di rfl ?_)
      obtain ⟨c1, L, hm⟩ := ob hm
      refine Mw.p rfl rfl (fun _ => R.ix (α := List Int) b.rd L rfl rfl rfl) ?_
      obtain ⟨c2, c92, r93⟩ := (b.rd.at_ L).cell rfl
      refine Mw.q rfl rfl (fun _ c => R.ld rfl rfl (zah (b.rd.at_ L).1 rfl c92 c)) (Di rfl (Dv a rfl (Di rfl (Mw.p rfl rfl (fun _ => R.add rfl rfl) ?_))))
      obtain ⟨c3, Z, hm⟩ := ob hm
      refine Mw.p rfl rfl (fun _ => R.ix (α := List Int) b.rd Z rfl rfl rfl) ?_
      obtain ⟨c4, c97, r98⟩ := (b.rd.at_ Z).cell rfl
      refine Mw.q rfl rfl (fun _ c => R.ld rfl rfl (zah (b.rd.at_ Z).1 rfl c97 c)) (Di rfl ?_)
      obtain ⟨c5, aa, hm⟩ := ob hm
      refine Mw.p rfl rfl (fun _ => R.ix (α := Int) r98 aa rfl rfl rfl) (Mw.q rfl rfl (fun _ c => R.ld rfl rfl (zah (r98.at_ aa).1 rfl (r98.at_ aa).int c)) (Dv a rfl (Di rfl ?_)))
      obtain ⟨c6, ac, hm⟩ := ob hm
      refine Mw.p rfl rfl (fun _ => R.ix (α := List Int) b.rd ac rfl rfl rfl) ?_
      obtain ⟨c7, c104, r105⟩ := (b.rd.at_ ac).cell rfl
      refine Mw.q rfl rfl (fun _ c => R.ld rfl rfl (zah (b.rd.at_ ac).1 rfl c104 c)) (Di rfl (Mw.p rfl rfl (fun _ => R.add rfl rfl) ?_))
      obtain ⟨c8, ae, hm⟩ := ob hm
      refine Mw.p rfl rfl (fun _ => R.ix (α := Int) r105 ae rfl rfl rfl) (Mw.q rfl rfl (fun _ c => R.ld rfl rfl (zah (r105.at_ ae).1 rfl (r105.at_ ae).int c)) (Mw.p rfl rfl (fun _ => R.max rfl rfl) ?_))
      obtain ⟨c9, b2, hm⟩ := ob hm
      refine Mw.p rfl rfl (fun _ => R.ix (α := Int) r93 b2 rfl rfl rfl) ?_
      obtain ⟨da, b3, b4, b5, gb110⟩ := Ow.lend (α := List Int) (β := List Int) (j := 5) (jf := 0) b L (by rw [ziu]; exact c92) rfl
      rw [← b3]
      obtain ⟨db, b6, hm⟩ := ob hm
      refine Mw.lu rfl (T.stS (K' := []) b5 (rdI _) b6 rfl rfl rfl) ?_
      rintro _ _ ⟨dc, rfl, aw, b7⟩
      obtain ⟨b8, b9, cb, cc, eq117, cd⟩ := gb110 _ _ aw b7
      obtain ⟨ax, eqm117, hm⟩ := ob hm
      obtain rfl : ax = cc := Option.some.inj (eqm117.symm.trans eq117)
      rw [← b9]
      exact Mw.nil ((ag) ⟨ax, b8, rfl, ((((E.j av).j b4).j aw).j cb).w, rfl, cd, hm⟩)
   ·refine Cw.exit ?_
    rw [bg] at hm
    exact rg (mi rfl (Lw.sub rfl (Ni rfl ((agm) ⟨w64 (B - 1), H, vI C, h, rfl, (ao.j S).w, rfl, U, hm⟩))))
  ·refine Cw.exit ?_
   rw [bc] at hm
   refine sr (mv a rfl (Nv a rfl ?_))
   cases hm
   exact Cw.ret (zhB rfl (Res.mk Q ⟨a, rfl, ap.s.sub rfl rfl⟩))
theorem p217 {x0 b x1 d k0 r} (f : Rd W K [b] x0) (h : Rd W K [d] x1) (hm : Vm.zi4 x0 x1 = some r) : Q1 217 [b, d] W [] fun W' v => ∃ a, v = a ∧ Ow W' k0 [] [a] r :=
 (c217 (f.view _) (h.view _) hm).ad (fk k0) fun _ _ ⟨a, e, i⟩ => ⟨a, e, i.back (zfR _)⟩
theorem c185 {x0 x x1 i r} (y : Rd W0 [0] [x] x0) (H : Rd W0 [0] [i] x1) (hm : Vm.zfo x0 x1 = some r) : Q0 185 [x, i] W0 fun Wf v => ∃ W, v = W ∧ OwS Wf LL [] [W] r := by
 unfold Vm.zfo at hm
 refine zaj.of Tryz.func185 rfl rfl rfl rfl (sr (Nv (.slice none 0 0) rfl (sr (mv x rfl (mv i rfl (cr hm (fun _ => p217 (k0 := 2) y H) ?_))))))
 rintro z1 I X hm l3 ⟨_, rfl, ap⟩
 have a4 := l3.o
 refine Nv I rfl (sr (Nv (.slice none 0 0) rfl (ssr (Gi rfl (Ni rfl (Cw.block ?_))))))
 obtain ⟨ar, au, hm⟩ := zaS hm
 refine Cw.loop 12 70 [6, 7, 8] (fun m l w => ∃ A e d f z, CW.w z = w ∧ Le [3] X z ∧ l = [f, vI e, vI d] ∧ Ow z 3 [] [f] A ∧ Vm.zde x0 x1 z1 ar m A e d = some r) _ ⟨([] : List Int), 0, 0, .slice none 0 0, X, rfl, Le.refl _ _, rfl, owN 3 [], hm⟩ ?_
 rintro (_ | bg) _ _ σ ⟨A, e, d, f, z, rfl, l10, rfl, J, hm⟩
 ·cases hm
 unfold Vm.zde at hm
 have B := a4.t l10
 refine ssr (mi rfl (mv x rfl (Lw.ln x0 (y.ul B) rfl (Lw.lt rfl (nl (cn hm (fun hm => ?_) fun hm => ?_))))))
 ·refine sk (Cw.block (Cw.block ?_))
  obtain ⟨av, aw, hm⟩ := zaS hm
  refine Cw.join 18 33 [18] (fun l w => ∃ K C, CW.w C = w ∧ Le [] z C ∧ l = [vB K] ∧ av K = some r) ?_ ?_
  ·rintro _ _ σ ⟨K, C, rfl, h, rfl, hm⟩
   rw [aw] at hm
   have ax := B.n h
   refine cn hm (fun hm => ?_) fun hm => ?_
   ·refine sr (mv f rfl (mi rfl (Lw.t rfl (T.bs 4 [vI d] (cs := [vI d]) rfl rfl (bsv rfl)) ?_)))
    rintro _ _ ⟨bh, bi, rfl, rfl, Y, ay⟩
    obtain ⟨az, a0, hm⟩ := ob hm
    refine Lw.t rfl (T.app1S (α := Int) (K' := []) ((J.up h).up Y) ay (rdI _) rfl rfl a0) ?_
    rintro Z _ ⟨a1, rfl, a2, a3⟩
    exact Nv Z rfl (sr (mi rfl (Lw.add rfl (Ni rfl (rg (mi rfl (Lw.add rfl (Ni rfl ((agm) ⟨az, w64 (e + 1), w64 (d + 1), Z, a1, rfl, (((l10.j h).j Y).j a2).w, rfl, a3, hm⟩)))))))))
   ·obtain ⟨a5, a6, hm⟩ := zaS hm
    refine Cw.join 42 65 [42] (fun l w => ∃ L D, CW.w D = w ∧ Le [] C D ∧ l = [vB L] ∧ a5 L = some r) ?_ ?_
    ·rintro _ _ σ ⟨L, D, rfl, M, rfl, hm⟩
     rw [a6] at hm
     have aa := (J.up h).up M
     refine cn hm (fun hm => ?_) fun hm => ?_
     ·refine sr (mv f rfl (Lw.t rfl (T.bs 5 [vI (-1)] (cs := [vI (-1)]) rfl rfl (bsv rfl)) ?_))
      rintro _ _ ⟨bj, bk, rfl, rfl, ac, a7⟩
      obtain ⟨a8, a9, hm⟩ := ob hm
      refine Lw.t rfl (T.app1S (α := Int) (K' := []) (aa.up ac) a7 (rdI _) rfl rfl a9) ?_
      rintro ae _ ⟨ba, rfl, bb, bc⟩
      exact Nv ae rfl (rg (mi rfl (Lw.add rfl (Ni rfl ((agm) ⟨a8, w64 (e + 1), d, ae, ba, rfl, ((((l10.j h).j M).j ac).j bb).w, rfl, bc, hm⟩)))))
     ·exact rg (mi rfl (Lw.add rfl (Ni rfl ((agm) ⟨A, e, w64 (d + 1), f, D, rfl, ((l10.j h).j M).w, rfl, aa, hm⟩))))
    ·refine Cw.draw [] [(0, 0), (1, 0), (2, 0), (3, 0), (4, 0), (5, 0), (6, 0), (7, 0), (8, 0), (9, 1), (10, 0), (11, 0), (12, 1), (13, 0), (14, 0), (15, 0), (16, 1), (17, 0), (18, 0), (19, 0), (20, 1), (21, 0), (22, 0), (23, 0)] mixed (by kernel_rfl) fun af E => ?_
     have be := ax.n E
     have k := ((ap.up l10).up h).up E
     refine Di rfl (Dv i rfl (Mw.p rfl rfl (fun _ => zs4 (xs := x1) (H.ul be) rfl) (Mw.p rfl rfl (fun _ => R.eq rfl rfl) (Db rfl (bs hm (fun a hm => ?_) fun a hm => ?_)))))
     ·exact dps 17 a rfl (Mw.p rfl rfl (fun _ => R.pk a rfl (v := vB true) rfl) (Hb rfl (Mw.nil ((ag) ⟨true, af, rfl, E, rfl, hm⟩))))
     ·refine Wp a rfl (fun _ => R.mv (v := I) rfl) (Wp a rfl (fun _ => R.mv (v := vI e) rfl) (Wp a rfl (fun _ => R.add rfl rfl) ?_))
      obtain ⟨bl, N, hm⟩ := ob hm
      refine Wp a rfl (fun _ => R.ix (α := List Int) k.rd N rfl rfl rfl) ?_
      obtain ⟨bm, c60, r61⟩ := (k.rd.at_ N).cell rfl
      refine Wq a rfl (fun _ c => R.ld rfl rfl (zah (k.rd.at_ N).1 rfl c60 c)) (Wp a rfl (fun _ => R.mv (v := vI d) rfl) ?_)
      obtain ⟨ah, O, hm⟩ := ob hm
      refine Wp a rfl (fun _ => R.ix (α := Int) r61 O rfl rfl rfl) (Wq a rfl (fun _ c => R.ld rfl rfl (zah (r61.at_ O).1 rfl (r61.at_ O).int c)) (Wp a rfl (fun _ => R.mv (v := I) rfl) (Wp a rfl (fun _ => R.mv (v := vI e) rfl) ?_)))
      obtain ⟨u64, P, hm⟩ := ob hm
      refine Wp a rfl (fun _ => R.ix (α := List Int) k.rd P rfl rfl rfl) ?_
      obtain ⟨bn, c67, r68⟩ := (k.rd.at_ P).cell rfl
      refine Wq a rfl (fun _ c => R.ld rfl rfl (zah (k.rd.at_ P).1 rfl c67 c)) (Wp a rfl (fun _ => R.mv (v := vI d) rfl) (Wp a rfl (fun _ => R.add rfl rfl) ?_))
      obtain ⟨ai, Q, hm⟩ := ob hm
      exact Wp a rfl (fun _ => R.ix (α := Int) r68 Q rfl rfl rfl) (Wq a rfl (fun _ c => R.ld rfl rfl (zah (r68.at_ Q).1 rfl (r68.at_ Q).int c)) (Wp a rfl (fun _ => R.ge rfl rfl) (Mw.p rfl rfl (fun _ => R.pk a rfl (v := vB (decide ((ai : Int) ≤ (ah : Int)))) rfl) (Hb rfl (Mw.nil ((ag) ⟨decide ((ai : Int) ≤ (ah : Int)), af, rfl, E, rfl, hm⟩))))))
  ·refine Cw.draw [] [(0, 0), (1, 0), (2, 0), (3, 0), (4, 0), (5, 0), (6, 0), (7, 0), (8, 1), (9, 0), (10, 0), (11, 0), (12, 1), (13, 0), (14, 0), (15, 0)] mixed (by kernel_rfl) fun aj S => ?_
   have F := B.n S
   have G := H.ul F
   refine Di rfl (Dv i rfl (Mw.p rfl rfl (fun _ => zs4 (xs := x1) G rfl) (Mw.p rfl rfl (fun _ => R.lt rfl rfl) (Db rfl (bs hm (fun b hm => ?_) fun b hm => ?_)))))
   ·refine Wp b rfl (fun _ => R.mv (v := x) rfl) (Wp b rfl (fun _ => R.mv (v := vI e) rfl) ?_)
    obtain ⟨ak, U, hm⟩ := ob hm
    refine Wp b rfl (fun _ => R.ix (α := Str) (y.ul F) U rfl rfl rfl) (Wq b rfl (fun _ c => R.ld rfl rfl (zah ((y.ul F).at_ U).1 rfl ((y.ul F).at_ U).str c)) (Wp b rfl (fun _ => R.mv (v := i) rfl) (Wp b rfl (fun _ => R.mv (v := vI d) rfl) ?_)))
    obtain ⟨am, V, hm⟩ := ob hm
    exact Wp b rfl (fun _ => R.ix (α := Str) G V rfl rfl rfl) (Wq b rfl (fun _ c => R.ld rfl rfl (zah (G.at_ V).1 rfl (G.at_ V).str c)) (Wp b rfl (fun _ => R.seq rfl rfl) (Mw.p rfl rfl (fun _ => R.pk b rfl (v := vB (ak == am)) rfl) (Hb rfl (Mw.nil ((ag) ⟨(ak == am), aj, rfl, S, rfl, hm⟩))))))
   ·exact dps 9 b rfl (Mw.p rfl rfl (fun _ => R.pk b rfl (v := vB false) rfl) (Hb rfl (Mw.nil ((ag) ⟨false, aj, rfl, S, rfl, hm⟩))))
 ·refine Cw.exit ?_
  rw [au] at hm
  refine sr (mv f rfl (Nv f rfl ?_))
  cases hm
  exact Cw.ret (zhB rfl (Res.mk B ⟨f, rfl, J.s.sub rfl rfl⟩))
theorem p185 {x0 b x1 d k0 r} (f : Rd W K [b] x0) (h : Rd W K [d] x1) (hm : Vm.zfo x0 x1 = some r) : Q1 185 [b, d] W [] fun W' v => ∃ a, v = a ∧ Ow W' k0 [] [a] r :=
 (c185 (f.view _) (h.view _) hm).ad (fk k0) fun _ _ ⟨a, e, i⟩ => ⟨a, e, i.back (zfR _)⟩
theorem c171 {x0 b x1 e r} (d : Rd W0 [0] [b] x0) (f : Rd W0 [0] [e] x1) (hm : Vm.ziW x0 x1 = some r) : Q0 171 [b, e] W0 fun Wf v => v = vB r := by
 unfold Vm.ziW at hm
 refine zaj.of Tryz.func171 rfl rfl rfl rfl (sr (Nb rfl (ssr (mv b rfl (Lw.ln x0 d rfl (mv e rfl (Lw.ln x1 f rfl (Lw.ne rfl (nl (cn hm (fun hm => ?_) fun hm => ?_))))))))))
 ·exact sr (Nb rfl (.ret (rt hm (Le.refl _ _))))
 ·refine sk (ssr (Ni rfl (Cw.block ?_)))
  obtain ⟨B, C, hm⟩ := zaS hm
  refine Cw.loop 11 25 [4, 5] (fun m l w => ∃ h i k, CW.w k = w ∧ Le [] W0 k ∧ l = [vB h, vI i] ∧ Vm.zfH x0 x1 B m h i = some r) _ ⟨false, 0, W0, rfl, Le.refl _ _, rfl, hm⟩ ?_
  rintro (_ | E) _ _ σ ⟨h, i, k, rfl, A, rfl, hm⟩
  ·cases hm
  unfold Vm.zfH at hm
  have x := A.o
  refine ssr (mi rfl (mv b rfl (Lw.ln x0 (d.ul x) rfl (Lw.lt rfl (nl (cn hm (fun hm => ?_) fun hm => ?_))))))
  ·refine sk (Cw.seq (Cw.block (Cw.seq (Cw.draw [] [(0, 0), (1, 0), (2, 0), (3, 1), (4, 0), (5, 0), (6, 0), (7, 1), (8, 0)] mixed (by kernel_rfl) fun D l10 => ?_))))
   have a := x.n l10
   refine Dv b rfl (Di rfl ?_)
   obtain ⟨F, y, hm⟩ := ob hm
   refine Mw.p rfl rfl (fun _ => R.ix (α := Int) (d.ul a) y rfl rfl rfl) (Mw.q rfl rfl (fun _ c => R.ld rfl rfl (zah ((d.ul a).at_ y).1 rfl ((d.ul a).at_ y).int c)) (Dv e rfl (Di rfl ?_)))
   obtain ⟨G, z, hm⟩ := ob hm
   refine Mw.p rfl rfl (fun _ => R.ix (α := Int) (f.ul a) z rfl rfl rfl) (Mw.q rfl rfl (fun _ c => R.ld rfl rfl (zah ((f.ul a).at_ z).1 rfl ((f.ul a).at_ z).int c)) (Mw.p rfl rfl (fun _ => R.ne rfl rfl) (Mw.nil (cn hm (fun hm => ?_) fun hm => ?_))))
   ·exact sr (Nb rfl (.ret (rt hm a)))
   ·exact sk (rg (mi rfl (Lw.add rfl (Ni rfl ((agm) ⟨h, w64 (i + 1), D, rfl, (A.j l10).w, rfl, hm⟩)))))
  ·refine Cw.exit ?_
   rw [C] at hm
   exact sr (Nb rfl (.ret (rt hm x)))
theorem p171 {x0 a x1 b r} (d : Rd W K [a] x0) (f : Rd W K [b] x1) (hm : Vm.ziW x0 x1 = some r) : Q1 171 [a, b] W [] fun W' v => v = vB r :=
 (c171 (d.view _) (f.view _) hm).ad (fk 0) fun _ _ e => e
theorem c31 {x0 b x1 e r} (d : Rd W0 [0] [b] x0) (f : Rd W0 [0] [e] x1) (hm : Vm.zcI x0 x1 = some r) : Q0 31 [b, e] W0 fun Wf v => v = vB r := by
 unfold Vm.zcI at hm
 refine zaj.of Tryz.func31 rfl rfl rfl rfl (sr (Nb rfl (ssr (mv b rfl (Lw.ln x0 d rfl (mv e rfl (Lw.ln x1 f rfl (Lw.ne rfl (nl (cn hm (fun hm => ?_) fun hm => ?_))))))))))
 ·exact sr (Nb rfl (.ret (rt hm (Le.refl _ _))))
 ·refine sk (ssr (Ni rfl (Cw.block ?_)))
  obtain ⟨B, C, hm⟩ := zaS hm
  refine Cw.loop 11 25 [4, 5] (fun m l w => ∃ h i k, CW.w k = w ∧ Le [] W0 k ∧ l = [vB h, vI i] ∧ Vm.zcr x0 x1 B m h i = some r) _ ⟨false, 0, W0, rfl, Le.refl _ _, rfl, hm⟩ ?_
  rintro (_ | E) _ _ σ ⟨h, i, k, rfl, A, rfl, hm⟩
  ·cases hm
  unfold Vm.zcr at hm
  have x := A.o
  refine ssr (mi rfl (mv b rfl (Lw.ln x0 (d.ul x) rfl (Lw.lt rfl (nl (cn hm (fun hm => ?_) fun hm => ?_))))))
  ·refine sk (Cw.seq (Cw.block (Cw.seq (Cw.draw [] [(0, 0), (1, 0), (2, 0), (3, 1), (4, 0), (5, 0), (6, 0), (7, 1), (8, 0)] mixed (by kernel_rfl) fun D l10 => ?_))))
   have a := x.n l10
   refine Dv b rfl (Di rfl ?_)
   obtain ⟨F, y, hm⟩ := ob hm
   refine Mw.p rfl rfl (fun _ => R.ix (α := Str) (d.ul a) y rfl rfl rfl) (Mw.q rfl rfl (fun _ c => R.ld rfl rfl (zah ((d.ul a).at_ y).1 rfl ((d.ul a).at_ y).str c)) (Dv e rfl (Di rfl ?_)))
   obtain ⟨G, z, hm⟩ := ob hm
   refine Mw.p rfl rfl (fun _ => R.ix (α := Str) (f.ul a) z rfl rfl rfl) (Mw.q rfl rfl (fun _ c => R.ld rfl rfl (zah ((f.ul a).at_ z).1 rfl ((f.ul a).at_ z).str c)) (Mw.p rfl rfl (fun _ => R.sne rfl rfl) (Mw.nil (cn hm (fun hm => ?_) fun hm => ?_))))
   ·exact sr (Nb rfl (.ret (rt hm a)))
   ·exact sk (rg (mi rfl (Lw.add rfl (Ni rfl ((agm) ⟨h, w64 (i + 1), D, rfl, (A.j l10).w, rfl, hm⟩)))))
  ·refine Cw.exit ?_
   rw [C] at hm
   exact sr (Nb rfl (.ret (rt hm x)))
theorem p31 {x0 a x1 b r} (d : Rd W K [a] x0) (f : Rd W K [b] x1) (hm : Vm.zcI x0 x1 = some r) : Q1 31 [a, b] W [] fun W' v => v = vB r :=
 (c31 (d.view _) (f.view _) hm).ad (fk 0) fun _ _ e => e
end Go.Sx
