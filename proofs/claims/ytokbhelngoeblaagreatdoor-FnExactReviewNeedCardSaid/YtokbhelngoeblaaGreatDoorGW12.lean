/- Walks: each function answers as its model, printed by a program of ours. Conditions: the arguments read as they are given. -/
import Derived.Test.YtokbhelngoeblaaGreatDoorGTs
import Derived.Test.YtokbhelngoeblaaGreatDoorGM2
import Derived.Test.YtokbhelngoeblaaGreatDoorGW1
import Derived.Test.YtokbhelngoeblaaGreatDoorGW10
import Derived.Test.YtokbhelngoeblaaGreatDoorGW11
import Derived.Test.YtokbhelngoeblaaGreatDoorGW2
import Derived.Test.YtokbhelngoeblaaGreatDoorGE
namespace Go.Sx
open Go Go.Proofs Go.Vm Rp
set_option linter.unusedVariables false
set_option linter.unusedSimpArgs false
variable {W W0 : CW} {K : List Nat}
theorem c94 {x0 ai aj x1 N x2 ak r} (h0 : Rd W0 [0] [ai, aj] x0) (h1 : Rd W0 [0] [N] x1) (h2 : Rd W0 [0] [vS x2.Branch, vS x2.Into, vS x2.By, ak] x2) (hm : Vm.zia x0 x1 x2 = some r) : Q0 94 [.agg [ai, aj].toArray, N, .agg [vS x2.Branch, vS x2.Into, vS x2.By, ak].toArray] W0 fun Wf v => ∃ u0, v = u0 ∧ Rd Wf [0] [u0] r := by
 unfold Vm.zia at hm
 obtain ⟨cb, cc, an, ba, bb⟩ := Repo.split h0
 simp only [List.cons.injEq, and_true, true_and] at an
 obtain ⟨rfl, rfl⟩ := an
 obtain ⟨cd, ao, ap⟩ := Review.split h2
 simp only [List.cons.injEq, and_true, true_and] at ao
 obtain rfl := ao
 refine zaj.of Tryz.func94 rfl rfl rfl rfl (sr (bo 2 rfl fun g1 W1 l1 b1 => ?_))
 have a2 := l1.o
 refine bo 3 rfl fun g3 W3 l3 b3 => ?_
 have a4 := a2.n l3
 refine Nv (.slice none 0 0) rfl (sr (Lw.t rfl (T.lit0 (α := Str) 4 []) ?_))
 rintro O _ ⟨W6, rfl, A, o6⟩
 have B := a4.n A
 refine Nv O rfl (sr (la ((b1.up l3).up A) (la (b3.up A) (cr hm (fun _ => p146 (Repo.rd (K := [0]) x0.Commits x0.Heads (ba.ul B) (bb.ul B)) (Review.rd (K := [0]) x2.Branch x2.Into x2.By x2.Yes (ap.ul B))) ?_))))
 rintro au P cj hm Q ⟨_, rfl, bj⟩
 have bk := bj.sub (M := [0]) rfl
 have S := B.n Q
 refine Nv P rfl (ssr (Ni rfl (Cw.block ?_)))
 obtain ⟨U, bl, av, bm⟩ := zp4 _ 4
 rw [← bl]
 have bn : Rd (α := List Str) U [0] [O] ([] : List Str) := by rw [bm]; exact ((o6.up Q).rd.dye 4).sub (M := [0]) rfl
 have C := av.s
 obtain ⟨bp, bq, hm⟩ := zaS hm
 refine Cw.loop 17 58 [7, 9, 10, 11, 12] (fun m l w => ∃ D E a aw ax ay f, CW.w f = w ∧ Le [] U f ∧ l = [a, vI E, aw, ax, ay] ∧ Rd f [0] [a] D ∧ Vm.zcd x1 x2 au bp m D E = some r) _ ⟨([] : List Str), 0, O, undef, undef, undef, U, rfl, Le.refl _ _, rfl, bn, hm⟩ ?_
 rintro (_ | ck) _ _ σ ⟨D, E, a, aw, ax, ay, f, rfl, V, rfl, r28, hm⟩
 ·cases hm
 unfold Vm.zcd at hm
 have F := V.o
 refine ssr ?_
 have W := bk.ul (C.trans F)
 refine mi rfl (mv P rfl (Lw.ln au W rfl (Lw.lt rfl (nl (cn hm (fun hm => ?_) fun hm => ?_)))))
 ·refine sk ?_
  obtain ⟨br, bu, hm⟩ := zaS hm
  refine Cw.join 23 58 [7, 10, 11, 12] (fun l w => ∃ G H X Y Z h, CW.w h = w ∧ Le [] f h ∧ l = [H, X, Y, Z] ∧ Rd h [0] [H] G ∧ br G = some r) ?_ ?_
  ·rintro _ _ σ ⟨G, H, X, Y, Z, h, rfl, bv, rfl, r43, hm⟩
   rw [bu] at hm
   exact rg (mi rfl (Lw.add rfl (Ni rfl ((agm) ⟨G, w64 (E + 1), H, X, Y, Z, h, rfl, (V.j bv).w, rfl, r43, hm⟩))))
  ·refine Cw.block (sr (mv N rfl (mv P rfl (mi rfl ?_))))
   obtain ⟨cl, az, hm⟩ := ob hm
   refine Lw.r rfl (R.ix (α := Str) W az rfl rfl rfl) (Lw.r rfl (R.ld rfl rfl (W.at_ az).str) (ca hm (fun _ => p147 (h1.ul ((S.trans C).trans F))) fun i aa hm I => ?_))
   have ac := I.o
   have a0 := ((((b3.up A).up Q).up av).up V).up I
   refine Ns rfl ?_
   obtain ⟨bw, bz, hm⟩ := zaS hm
   refine Cw.join 29 36 [11] (fun l w => ∃ J k, CW.w k = w ∧ Le [] aa k ∧ l = [vB J] ∧ bw J = some r) ?_ ?_
   ·rintro _ _ σ ⟨J, k, rfl, L, rfl, hm⟩
    rw [bz] at hm
    have ae := L.o
    refine ssr (Ni rfl (Cw.block ?_))
    obtain ⟨b0, b2, hm⟩ := zaS hm
    refine Cw.loop 37 53 [11, 12] (fun m l w => ∃ x b d, CW.w d = w ∧ Le [] k d ∧ l = [vB x, vI b] ∧ Vm.zbU x2 i b0 m x b = some r) _ ⟨J, 0, k, rfl, Le.refl _ _, rfl, hm⟩ ?_
    rintro (_ | cm) _ _ σ ⟨x, b, d, rfl, e, rfl, hm⟩
    ·cases hm
    unfold Vm.zbU at hm
    have af := e.o
    have a1 := (a0.up L).up e
    refine ssr ?_
    have ah := ap.ul (((((S.trans C).trans F).trans ac).trans ae).trans af)
    refine mi rfl (fl a1 rfl (Lw.ln x2.Yes ah rfl (Lw.lt rfl (nl (cn hm (fun hm => ?_) fun hm => ?_)))))
    ·refine sk (Cw.seq (Cw.block (rg (mb rfl (mb rfl (bs hm (fun y hm => ?_) fun y hm => ?_))))))
     ·exact psk 7 y rfl (Pb y rfl (Nb rfl (rg (mi rfl (Lw.add rfl (Ni rfl ((agm) ⟨true, w64 (b + 1), d, rfl, e, rfl, hm⟩)))))))
     ·refine wak 7 y (fl a1 rfl (mi rfl ?_))
      obtain ⟨b4, a3, hm⟩ := ob hm
      exact Lw.r rfl (R.ix (α := Str) ah a3 rfl rfl rfl) (Lw.r rfl (R.ld rfl rfl (ah.at_ a3).str) (ms rfl (Lw.seq rfl (Pb y rfl (Nb rfl (rg (mi rfl (Lw.add rfl (Ni rfl ((agm) ⟨(b4 == i), w64 (b + 1), d, rfl, e, rfl, hm⟩))))))))))
    ·refine Cw.exit ?_
     rw [b2] at hm
     refine sr (mb rfl (Lw.r rfl (R.not rfl) (nl (cn hm (fun hm => ?_) fun hm => ?_))))
     ·refine rg (mv a rfl (ms rfl (cr hm (fun _ => p148 (r28.ul ((ac.trans ae).trans af))) ?_)))
      rintro b5 a5 b6 hm b7 ⟨_, rfl, b8⟩
      have b9 := b8.sub (M := [0]) rfl
      exact Nv a5 rfl ((ag) ⟨b5, a5, vS i, vB x, vI b, b6, rfl, (((I.j L).j e).j b7).w, rfl, b9, hm⟩)
     ·exact sk ((ag) ⟨D, a, vS i, vB x, vI b, d, rfl, ((I.j L).j e).w, rfl, (r28.ul ((ac.trans ae).trans af)), hm⟩)
   ·refine rg (ms rfl (Lw.seq rfl (mb rfl (bs hm (fun z hm => ?_) fun z hm => ?_))))
    ·exact psk 4 z rfl (Pb z rfl (Nb rfl ((ag) ⟨true, aa, rfl, Le.refl _ _, rfl, hm⟩)))
    ·exact wak 4 z (ms rfl (fl a0 rfl (Lw.seq rfl (Pb z rfl (Nb rfl ((ag) ⟨(i == x2.By), aa, rfl, Le.refl _ _, rfl, hm⟩))))))
 ·refine Cw.exit ?_
  rw [bq] at hm
  refine sr (mv a rfl (Nv a rfl ?_))
  cases hm
  exact Cw.ret (zhB rfl (Res.mk ((S.trans C).trans F) ⟨a, rfl, r28⟩))
theorem p94 {x0 b d x1 f x2 h r} (i : Rd W K [b, d] x0) (k : Rd W K [f] x1) (x : Rd W K [vS x2.Branch, vS x2.Into, vS x2.By, h] x2) (hm : Vm.zia x0 x1 x2 = some r) : Q1 94 [.agg [b, d].toArray, f, .agg [vS x2.Branch, vS x2.Into, vS x2.By, h].toArray] W [] fun W' v => ∃ a, v = a ∧ Rd W' (0 :: K) [a] r :=
 (c94 (i.view _) (k.view _) (x.view _) hm).ad (fk 0) fun _ _ ⟨a, e, y⟩ => ⟨a, e, y.back rfl⟩
theorem c27 {x0 I J x1 y x2 L r} (h0 : Rd W0 [0] [I, J] x0) (N : Rd W0 [0] [y] x1) (h2 : Rd W0 [0] [vS x2.Branch, vS x2.Into, vS x2.By, L] x2) (hm : Vm.zes x0 x1 x2 = some r) : Q0 27 [.agg [I, J].toArray, y, .agg [vS x2.Branch, vS x2.Into, vS x2.By, L].toArray] W0 fun Wf v => ∃ O, v = .tuple [O, vB r.2].toArray ∧ Rd Wf [0] [O] r.1 := by
 unfold Vm.zes at hm
 obtain ⟨az, a0, P, z, A⟩ := Repo.split h0
 simp only [List.cons.injEq, and_true, true_and] at P
 obtain ⟨rfl, rfl⟩ := P
 obtain ⟨a1, Q, S⟩ := Review.split h2
 simp only [List.cons.injEq, and_true, true_and] at Q
 obtain rfl := Q
 refine zaj.of Tryz.func27 rfl rfl rfl rfl (sr (bo 2 rfl fun g1 W1 l1 b1 => ?_))
 have a2 := l1.o
 refine bo 3 rfl fun g3 W3 T U => ?_
 have B := a2.n T
 have C := b1.up T
 refine Gv (.slice none 0 0) rfl (Nb rfl (Cw.seq ?_))
 obtain ⟨K8, ak, hm⟩ := zaS hm
 refine Cw.join 8 34 [34] (fun l w => ∃ D E, CW.w E = w ∧ Le [] W3 E ∧ l = [vB D] ∧ K8 D = some r) ?_ ?_
 ·rintro _ _ σ ⟨D, E, rfl, F, rfl, hm⟩
  rw [ak] at hm
  have e := B.n F
  refine cn hm (fun hm => ?_) fun hm => ?_
  ·refine sr (Gv (.slice none 0 0) rfl (Nb rfl ?_))
   cases hm
   exact Cw.ret (zoI rfl rfl (Res.mk e ⟨.slice none 0 0, rfl, (rdN (K := [0]))⟩))
  ·refine sk (sr (la (C.up F) (mv y rfl (la (U.up F) (cr hm (fun _ => p94 (Repo.rd (K := [0]) x0.Commits x0.Heads (z.ul e) (A.ul e)) (N.ul e) (Review.rd (K := [0]) x2.Branch x2.Into x2.By x2.Yes (S.ul e))) ?_)))))
   rintro a7 V a8 hm am ⟨_, rfl, an⟩
   have ao := an.sub (M := [0]) rfl
   have ap := e.n am
   refine Gv V rfl (Nb rfl ?_)
   cases hm
   exact Cw.ret (zoI rfl rfl (Res.mk ap ⟨V, rfl, ao⟩))
 ·refine rg (la C (ca hm (fun _ => p55 (Repo.rd (K := [0]) x0.Commits x0.Heads (z.ul B) (A.ul B))) fun ba aq hm a => ?_))
  have W := B.n a
  refine Lw.r rfl (R.not rfl) (mb rfl (bs hm (fun f hm => ?_) fun f hm => ?_))
  ·exact psk 3 f rfl (Pb f rfl (mb rfl (psk 3 rfl rfl (Pb rfl rfl (mb rfl (psk 5 rfl rfl (Pb rfl rfl (mb rfl (psk 5 rfl rfl (Pb rfl rfl (nl ((ag) ⟨true, aq, rfl, a, rfl, hm⟩))))))))))))
  ·refine wak 3 f (mv y rfl (ca hm (fun _ => p92 (N.ul W)) fun bb ar hm b => ?_))
   have X := W.n b
   have G := (U.up a).up b
   refine Lw.r rfl (R.not rfl) (Pb f rfl (mb rfl (bs hm (fun h hm => ?_) fun h hm => ?_)))
   ·exact psk 3 h rfl (Pb h rfl (mb rfl (psk 5 rfl rfl (Pb rfl rfl (mb rfl (psk 5 rfl rfl (Pb rfl rfl (nl ((ag) ⟨true, ar, rfl, (a.j b).w, rfl, hm⟩)))))))))
   ·refine wak 3 h (la G (ca hm (fun _ => p93 (Review.rd (K := [0]) x2.Branch x2.Into x2.By x2.Yes (S.ul X))) fun bc au hm d => ?_))
    have H := X.n d
    have Y := ((C.up a).up b).up d
    refine Lw.r rfl (R.not rfl) (Pb h rfl (mb rfl (bs hm (fun i hm => ?_) fun i hm => ?_)))
    ·exact psk 5 i rfl (Pb i rfl (mb rfl (psk 5 rfl rfl (Pb rfl rfl (nl ((ag) ⟨true, au, rfl, ((a.j b).j d).w, rfl, hm⟩))))))
    ·refine wak 5 i (la Y (fl (G.up d) rfl (ca hm (fun _ => p56 (Repo.rd (K := [0]) x0.Commits x0.Heads (z.ul H) (A.ul H))) fun be av hm k => ?_)))
     have Z := H.n k
     refine Lw.lt rfl (Pb i rfl (mb rfl (bs hm (fun x hm => ?_) fun x hm => ?_)))
     ·exact psk 5 x rfl (Pb x rfl (nl ((ag) ⟨true, av, rfl, (((a.j b).j d).j k).w, rfl, hm⟩)))
     ·exact wak 5 x (la (Y.up k) (fl ((G.up d).up k) rfl (ca hm (fun _ => p56 (Repo.rd (K := [0]) x0.Commits x0.Heads (z.ul Z) (A.ul Z))) fun aw ax hm ay => Lw.lt rfl (Pb x rfl (nl ((ag) ⟨decide ((aw : Int) < (0 : Int)), ax, rfl, ((((a.j b).j d).j k).j ay).w, rfl, hm⟩))))))
theorem p27 {x0 b d x1 f x2 h r} (i : Rd W K [b, d] x0) (k : Rd W K [f] x1) (x : Rd W K [vS x2.Branch, vS x2.Into, vS x2.By, h] x2) (hm : Vm.zes x0 x1 x2 = some r) : Q1 27 [.agg [b, d].toArray, f, .agg [vS x2.Branch, vS x2.Into, vS x2.By, h].toArray] W [] fun W' v => ∃ a, v = .tuple [a, vB r.2].toArray ∧ Rd W' (0 :: K) [a] r.1 :=
 (c27 (i.view _) (k.view _) (x.view _) hm).ad (fk 0) fun _ _ ⟨a, e, y⟩ => ⟨a, e, y.back rfl⟩
theorem c97 {x0 i r} (f : Rd W0 [0] [i] x0) (S : Gl 0 W0 [0]) (hm : Vm.zeW x0 = some r) : Q0 97 [i] W0 fun Wf v => v = vB r := by
 unfold Vm.zeW at hm
 refine zaj.of Tryz.func97 rfl rfl rfl rfl (sr (Nb rfl (ssr (mv i rfl (Lw.ln x0 f rfl (Lw.gt rfl (nl (cn hm (fun hm => ?_) fun hm => ?_))))))))
 ·exact sr (Nb rfl (.ret (rt hm (Le.refl _ _))))
 ·refine sk (ssr (mv i rfl (Lw.ln x0 f rfl (mi rfl (nl (Cw.block ?_))))))
  obtain ⟨U, V, hm⟩ := zaS hm
  refine Cw.loop 10 40 [2, 3, 4, 10] (fun m l w => ∃ x d J K D, CW.w D = w ∧ Le [2] W0 D ∧ l = [vB x, J, K, vI d] ∧ Vm.zcR x0 U m x d = some r) _ ⟨false, 0, undef, undef, W0, rfl, Le.refl _ _, rfl, hm⟩ ?_
  rintro (_ | m8) _ _ σ ⟨x, d, J, K, D, rfl, L, rfl, hm⟩
  ·cases hm
  unfold Vm.zcR at hm
  have y := L.s
  refine sr (Lw.lt rfl (nl (Cw.seq (cn hm (fun hm => ?_) fun hm => ?_))))
  ·refine sk (Cw.seq (Cw.block (sr (mi rfl ?_))))
   obtain ⟨k, M, hm⟩ := ob hm
   refine Lw.r rfl (R.ix (α := Owner) (f.ul y) M rfl rfl rfl) ?_
   obtain ⟨x14, c15, _, r16⟩ := ((f.ul y).at_ M).cells
   obtain rfl := Owner.split r16
   refine Lw.r rfl (R.lda c15 rfl rfl) (al 2 [vS ([] : Str), vS ([] : Str)] fun W an N X => ?_)
   have Y := y.n N
   refine Gi rfl (sta X (zaa rfl (zaa rfl zaR)) fun Z O aa => ?_)
   have P := Y.t O
   refine nl ?_
   obtain ⟨ac, ae, hm⟩ := zaS hm
   refine Cw.join 15 39 [39] (fun l w => ∃ E z, CW.w z = w ∧ Le [] Z z ∧ l = [vB E] ∧ ac E = some r) ?_ ?_
   ·rintro _ _ σ ⟨E, z, rfl, Q, rfl, hm⟩
    rw [ae] at hm
    have af := P.n Q
    refine cn hm (fun hm => ?_) fun hm => ?_
    ·exact sr (Nb rfl (.ret (rt hm af)))
    ·exact sk (rg (Lw.add rfl (mi rfl (nl ((agm) ⟨x, w64 (d + 1), vI d, ptr (bx W), z, rfl, (((L.j N).j O).j Q).w, rfl, hm⟩)))))
   ·refine Cw.draw [] [(0, 0), (1, 1), (2, 2), (3, 0), (4, 0), (5, 0), (6, 1), (7, 2), (8, 0), (9, 0), (10, 0), (11, 0), (12, 0), (13, 0), (14, 0), (15, 0), (16, 0), (17, 0), (18, 0), (19, 1), (20, 0), (21, 1), (22, 0), (23, 0), (24, 0)] mixed (by kernel_rfl) fun ao h => ?_
    have A := P.n h
    have F := aa.up h
    refine Dfl F rfl rfl rfl (Dc hm (Le.refl _ _) (fun _ => p142 (S.ul A)) rfl ?_)
    rintro ap _ ah hm B rfl ai
    refine Mw.p rfl rfl (fun _ => R.not rfl) (Db rfl (bs hm (fun e hm => ?_) fun e hm => ?_))
    ·exact dps 4 e rfl (Mw.p rfl rfl (fun _ => R.pk e rfl (v := vB true) rfl) (Db rfl (dps 3 rfl rfl (dpu 9 rfl (dps 1 rfl rfl (Mw.p rfl rfl (fun _ => R.pk rfl rfl (v := vB true) rfl) (Mw.nil ((ag) ⟨true, ah, rfl, (h.j B).w, rfl, hm⟩))))))))
    ·refine Wp e rfl (fun _ => R.fa rfl) (Wq e rfl (fun _ c => R.ld (v := vS k.Who) rfl rfl (F.clc rfl rfl c)) ?_)
     obtain ⟨aj, ak, hm⟩ := ob hm
     refine Wt e rfl (T.call rfl (p84   ak)) ?_
     rintro _ _ ⟨G, rfl, C, rfl⟩
     refine mc ai C fun aq => Wp e rfl (fun _ => R.not rfl) (Mw.p rfl rfl (fun _ => R.pk e rfl (v := vB (!aj)) rfl) (Db rfl (bs hm (fun b hm => ?_) fun b hm => ?_)))
     ·exact dps 3 b rfl (dpu 9 rfl (dps 1 b rfl (Mw.p rfl rfl (fun _ => R.pk b rfl (v := vB true) rfl) (Mw.nil ((ag) ⟨true, G, rfl, ((h.j B).j C).w, rfl, hm⟩)))))
     ·refine Wp b rfl (fun _ => R.mv (v := vI d) rfl) (Wp b rfl (fun _ => R.gt rfl rfl) (Wp b rfl (fun _ => R.mv (v := vB (decide ((0 : Int) < (d : Int)))) rfl) (bs hm (fun a hm => ?_) fun a hm => ?_)))
      ·refine Wp a rfl (fun _ => R.mv (v := i) rfl) (Wp a rfl (fun _ => R.mv (v := vI d) rfl) (Wp a rfl (fun _ => R.sub rfl rfl) ?_))
       obtain ⟨H, I, hm⟩ := ob hm
       exact Wp a rfl (fun _ => R.ix (α := Owner) (f.ul A) I rfl rfl rfl) (Wp a rfl (fun _ => R.fa rfl) (Wq a rfl (fun _ c => R.ld rfl rfl (zah (Owner.at0 ((f.ul A).at_ I)).1 rfl (Owner.at0 ((f.ul A).at_ I)).str c)) (Wp a rfl (fun _ => R.fa rfl) (Wq a rfl (fun _ c => R.ld (v := vS k.Path) rfl rfl (F.clc rfl rfl c)) (Wp a rfl (fun _ => R.sge rfl rfl) (Wp b rfl (fun _ => R.pk a rfl (v := vB (!Op.bytesLess H.Path k.Path)) rfl) (Mw.p rfl rfl (fun _ => R.pk b rfl (v := vB (!Op.bytesLess H.Path k.Path)) rfl) (Mw.nil ((ag) ⟨(!Op.bytesLess H.Path k.Path), G, rfl, ((h.j B).j C).w, rfl, hm⟩)))))))))
      ·exact dps 9 a rfl (Wp b rfl (fun _ => R.pk a rfl (v := vB false) rfl) (Mw.p rfl rfl (fun _ => R.pk b rfl (v := vB false) rfl) (Mw.nil ((ag) ⟨false, G, rfl, ((h.j B).j C).w, rfl, hm⟩))))
  ·refine Cw.exit ?_
   rw [V] at hm
   exact sr (Nb rfl (.ret (rt hm y)))
theorem p97 {x0 a r} (b : Rd W K [a] x0) (d : Gl 0 W K) (hm : Vm.zeW x0 = some r) : Q1 97 [a] W [] fun W' v => v = vB r :=
 (c97 (b.view _) (d.view _) hm).ad (fk 0) fun _ _ e => e
theorem c149 {x0 h r} (b : Rd W0 [0] [h] x0) (hm : Vm.zf6 x0 = some r) : Q0 149 [h] W0 fun Wf v => v = vB r := by
 unfold Vm.zf6 at hm
 refine zaj.of Tryz.func149 rfl rfl rfl rfl (sr (Nb rfl (ssr (mv h rfl (Lw.ln x0 b rfl (mi rfl (nl (Cw.block ?_))))))))
 obtain ⟨J, K, hm⟩ := zaS hm
 refine Cw.loop 7 28 [2, 3, 4, 7] (fun m l w => ∃ i d B C k, CW.w k = w ∧ Le [] W0 k ∧ l = [vB i, B, C, vI d] ∧ Vm.zc9 x0 J m i d = some r) _ ⟨false, 0, undef, undef, W0, rfl, Le.refl _ _, rfl, hm⟩ ?_
 rintro (_ | P) _ _ σ ⟨i, d, B, C, k, rfl, D, rfl, hm⟩
 ·cases hm
 unfold Vm.zc9 at hm
 have e := D.o
 refine sr (Lw.lt rfl (nl (Cw.seq (cn hm (fun hm => ?_) fun hm => ?_))))
 ·refine sk (Cw.seq (Cw.block (sr (mi rfl ?_))))
  obtain ⟨E, F, hm⟩ := ob hm
  refine Lw.r rfl (R.ix (α := Str) (b.ul e) F rfl rfl rfl) (Lw.r rfl (R.ld rfl rfl ((b.ul e).at_ F).str) (Gi rfl (Ns rfl ?_)))
  obtain ⟨L, M, hm⟩ := zaS hm
  refine Cw.join 12 27 [27] (fun l w => ∃ z x, CW.w x = w ∧ Le [] k x ∧ l = [vB z] ∧ L z = some r) ?_ ?_
  ·rintro _ _ σ ⟨z, x, rfl, G, rfl, hm⟩
   rw [M] at hm
   have N := e.n G
   refine cn hm (fun hm => ?_) fun hm => ?_
   ·exact sr (Nb rfl (.ret (rt hm N)))
   ·exact sk (rg (Lw.add rfl (mi rfl (nl ((agm) ⟨i, w64 (d + 1), vI d, vS E, x, rfl, (D.j G).w, rfl, hm⟩)))))
  ·refine rg (ms rfl (ca hm (fun _ => p84) fun Q A hm y => ?_))
   have H := e.n y
   refine Lw.r rfl (R.not rfl) (mb rfl (bs hm (fun a hm => ?_) fun a hm => ?_))
   ·exact psk 3 a rfl (puk 7 rfl (psk 1 a rfl (Pb a rfl (nl ((ag) ⟨true, A, rfl, y, rfl, hm⟩)))))
   ·refine wak 3 a (mi rfl (Lw.gt rfl (mb rfl (bs hm (fun f hm => ?_) fun f hm => ?_))))
    ·refine wak 7 f (mv h rfl (mi rfl (Lw.sub rfl ?_)))
     obtain ⟨O, I, hm⟩ := ob hm
     exact Lw.r rfl (R.ix (α := Str) (b.ul H) I rfl rfl rfl) (Lw.r rfl (R.ld rfl rfl ((b.ul H).at_ I).str) (ms rfl (Lw.r rfl (R.sge rfl rfl) (wak 1 a (Pb f rfl (Pb a rfl (nl ((ag) ⟨(!Op.bytesLess O E), A, rfl, y, rfl, hm⟩))))))))
    ·exact psk 7 f rfl (wak 1 a (Pb f rfl (Pb a rfl (nl ((ag) ⟨false, A, rfl, y, rfl, hm⟩)))))
 ·refine Cw.exit ?_
  rw [K] at hm
  exact sr (Nb rfl (.ret (rt hm e)))
theorem p149 {x0 a r} (b : Rd W K [a] x0) (hm : Vm.zf6 x0 = some r) : Q1 149 [a] W [] fun W' v => v = vB r :=
 (c149 (b.view _) hm).ad (fk 0) fun _ _ e => e
theorem c98 {x0 B r} (H : Rd W0 [0] [vS x0.Branch, vS x0.Into, vS x0.By, B] x0) (hm : Vm.zfB x0 = some r) : Q0 98 [.agg [vS x0.Branch, vS x0.Into, vS x0.By, B].toArray] W0 fun Wf v => v = vB r := by
 unfold Vm.zfB at hm
 obtain ⟨V, C, D⟩ := Review.split H
 simp only [List.cons.injEq, and_true, true_and] at C
 obtain rfl := C
 refine zaj.of Tryz.func98 rfl rfl rfl rfl (sr (bo 2 rfl fun W I J x => ?_))
 have E := J.o
 refine Nb rfl ?_
 obtain ⟨K, L, hm⟩ := zaS hm
 refine Cw.join 3 33 [2] (fun l w => ∃ y z, CW.w z = w ∧ Le [] I z ∧ l = [vB y] ∧ K y = some r) ?_ ?_
 ·rintro _ _ σ ⟨y, z, rfl, M, rfl, hm⟩
  rw [L] at hm
  have N := E.n M
  exact .ret (rt hm N)
 ·refine rg (fl x rfl (ca hm (fun _ => p84) fun X O hm l10 => ?_))
  have P := E.n l10
  refine mb rfl (bs hm (fun d hm => ?_) fun d hm => ?_)
  ·refine wak 3 d (fl (x.up l10) rfl (ca hm (fun _ => p84) fun Y Q hm a => ?_))
   have R := P.n a
   have F := (x.up l10).up a
   refine Pb d rfl (mb rfl (bs hm (fun e hm => ?_) fun e hm => ?_))
   ·refine wak 3 e (fl F rfl (ca hm (fun _ => p84) fun Z A hm b => ?_))
    have G := R.n b
    have k := F.up b
    refine Pb e rfl (mb rfl (bs hm (fun f hm => ?_) fun f hm => ?_))
    ·refine wak 5 f (fl k rfl (fl k rfl (Lw.sne rfl (Pb f rfl (mb rfl (bs hm (fun h hm => ?_) fun h hm => ?_))))))
     ·refine wak 4 h (fl k rfl (Lw.ln x0.Yes (D.ul G) rfl (Lw.le rfl (Pb h rfl (mb rfl (bs hm (fun i hm => ?_) fun i hm => ?_))))))
      ·exact wak 3 i (fl k rfl (ca hm (fun _ => p149 (D.ul G)) fun S T hm U => Pb i rfl (Nb rfl ((ag) ⟨S, T, rfl, (((l10.j a).j b).j U).w, rfl, hm⟩))))
      ·exact psk 3 i rfl (Pb i rfl (Nb rfl ((ag) ⟨false, A, rfl, ((l10.j a).j b).w, rfl, hm⟩)))
     ·exact psk 4 h rfl (Pb h rfl (mb rfl (psk 3 rfl rfl (Pb rfl rfl (Nb rfl ((ag) ⟨false, A, rfl, ((l10.j a).j b).w, rfl, hm⟩))))))
    ·exact psk 5 f rfl (Pb f rfl (mb rfl (psk 4 rfl rfl (Pb rfl rfl (mb rfl (psk 3 rfl rfl (Pb rfl rfl (Nb rfl ((ag) ⟨false, A, rfl, ((l10.j a).j b).w, rfl, hm⟩)))))))))
   ·exact psk 3 e rfl (Pb e rfl (mb rfl (psk 5 rfl rfl (Pb rfl rfl (mb rfl (psk 4 rfl rfl (Pb rfl rfl (mb rfl (psk 3 rfl rfl (Pb rfl rfl (Nb rfl ((ag) ⟨false, Q, rfl, (l10.j a).w, rfl, hm⟩))))))))))))
  ·exact psk 3 d rfl (Pb d rfl (mb rfl (psk 3 rfl rfl (Pb rfl rfl (mb rfl (psk 5 rfl rfl (Pb rfl rfl (mb rfl (psk 4 rfl rfl (Pb rfl rfl (mb rfl (psk 3 rfl rfl (Pb rfl rfl (Nb rfl ((ag) ⟨false, O, rfl, l10, rfl, hm⟩)))))))))))))))
theorem p98 {x0 a r} (b : Rd W K [vS x0.Branch, vS x0.Into, vS x0.By, a] x0) (hm : Vm.zfB x0 = some r) : Q1 98 [.agg [vS x0.Branch, vS x0.Into, vS x0.By, a].toArray] W [] fun W' v => v = vB r :=
 (c98 (b.view _) hm).ad (fk 0) fun _ _ e => e
theorem c137 {x0 z A x1 x2 r} (h0 : Rd W0 [0] [z, A] x0) (hm : Vm.zet x0 x1 x2 = some r) : Q0 137 [.agg [z, A].toArray, vI x1, vI x2] W0 fun Wf v => ∃ u0, v = u0 ∧ OwS Wf LL [] [u0] r := by
 unfold Vm.zet at hm
 obtain ⟨c2, c3, ah, B, M⟩ := Repo.split h0
 simp only [List.cons.injEq, and_true, true_and] at ah
 obtain ⟨rfl, rfl⟩ := ah
 refine zaj.of Tryz.func137 rfl rfl rfl rfl (sr (bo 2 rfl fun g1 W1 l1 b1 => ?_))
 have a2 := l1.o
 refine Nv (.slice none 0 0) rfl (Cw.seq (Cw.draw [] [(0, 1), (1, 0), (3, 1), (4, 0), (2, 2), (5, 3), (6, 0), (7, 0)] mixed (by kernel_rfl) fun W3 l3 => ?_))
 have N := a2.n l3
 have O := b1.up l3
 refine Mw.q rfl rfl (fun _ c => R.lda (cs := [z, A]) (O.clcs rfl c) rfl rfl) (Di rfl (Mw.q rfl rfl (fun _ c => R.lda (cs := [z, A]) (O.clcs rfl c) rfl rfl) (Di rfl ?_)))
 obtain ⟨z8, e9, hm⟩ := ob hm
 refine Mw.t rfl rfl (T.call rfl (p89 (k0 := 3) (Repo.rd (K := [0]) x0.Commits x0.Heads (B.ul N) (M.ul N)) e9)) ?_
 rintro aj _ ⟨c7, rfl, l10, ⟨_, rfl, bk⟩⟩
 have P := N.n l10
 refine m0 l10 fun c8 => ?_
 obtain ⟨bl, bm, hm⟩ := ob hm
 refine Mw.l rfl rfl (T.call rfl (p89 (k0 := 4) (Repo.rd (K := [0]) x0.Commits x0.Heads (B.ul P) (M.ul P)) bm)) ?_
 rintro ak _ ⟨c9, rfl, Q, ⟨_, rfl, bn⟩⟩
 have am := P.n Q
 have an := (O.up l10).up Q
 refine Hv aj rfl (Hv ak rfl (Mw.nil (sr (fl an rfl (Lw.ln x0.Commits (B.ul am) rfl ?_)))))
 obtain ⟨S, bp, hm⟩ := ob hm
 refine Lw.t rfl (T.mk (α := Bool) 5 [] (n := (x0.Commits.length : Int)) rfl rfl bp) ?_
 rintro d _ ⟨ao, rfl, C, ap⟩
 have bq := am.n C
 refine Nv d rfl (ssr (mv d rfl (Lw.ln S ap.rd rfl (mi rfl (nl (Cw.block ?_))))))
 obtain ⟨br, bu, hm⟩ := zaS hm
 refine Cw.loop 28 44 [10, 28] (fun m l w => ∃ a U aq D, CW.w D = w ∧ Le [5] ao D ∧ l = [aq, vI a] ∧ Ow D 5 [] [d] U ∧ Vm.zbF z8 bl S br m a U = some r) _ ⟨0, S, undef, ao, rfl, Le.refl _ _, rfl, ap, hm⟩ ?_
 rintro (_ | da) _ _ σ ⟨a, U, aq, D, rfl, e, rfl, f, hm⟩
 ·cases hm
 unfold Vm.zbF at hm
 have bv := bq.t e
 have ar := ((bk.up Q).up C).up e
 have au := (bn.up C).up e
 refine sr (Lw.lt rfl (nl (Cw.seq (cn hm (fun hm => ?_) fun hm => ?_))))
 ·refine sk (Cw.seq (Cw.block (sr (mi rfl (Ni rfl (rg (mv d rfl (mi rfl (mv aj rfl (mi rfl ?_))))))))))
  obtain ⟨db, av, hm⟩ := ob hm
  refine Lw.r rfl (R.ix (α := Bool) ar.rd av rfl rfl rfl) (Lw.r rfl (R.ld rfl rfl (ar.rd.at_ av).bool) (mb rfl (bs hm (fun i hm => ?_) fun i hm => ?_)))
  ·refine wak 4 i (mv ak rfl (mi rfl ?_))
   obtain ⟨dc, aw, hm⟩ := ob hm
   refine Lw.r rfl (R.ix (α := Bool) au.rd aw rfl rfl rfl) (Lw.r rfl (R.ld rfl rfl (au.rd.at_ aw).bool) (Pb i rfl ?_))
   obtain ⟨dd, bw, hm⟩ := ob hm
   refine Lw.r rfl (R.ix (α := Bool) f.rd bw rfl rfl rfl) ?_
   obtain ⟨bz, b0, hm⟩ := ob hm
   refine Lw.u (T.stS (K' := []) f (rdB _) b0 rfl rfl rfl) ?_
   rintro _ _ ⟨b2, rfl, b3, b4⟩
   exact nl (rg (Lw.add rfl (mi rfl (nl ((agm) ⟨w64 (a + 1), bz, vI a, b2, rfl, (e.j b3).w, rfl, b4, hm⟩)))))
  ·refine psk 4 i rfl (Pb i rfl ?_)
   obtain ⟨de, b6, hm⟩ := ob hm
   refine Lw.r rfl (R.ix (α := Bool) f.rd b6 rfl rfl rfl) ?_
   obtain ⟨b7, b8, hm⟩ := ob hm
   refine Lw.u (T.stS (K' := []) f (rdB _) b8 rfl rfl rfl) ?_
   rintro _ _ ⟨b9, rfl, cb, cc⟩
   exact nl (rg (Lw.add rfl (mi rfl (nl ((agm) ⟨w64 (a + 1), b7, vI a, b9, rfl, (e.j cb).w, rfl, cc, hm⟩)))))
 ·refine Cw.exit ?_
  rw [bu] at hm
  refine sr (mv d rfl (cr hm (fun _ => p174 (K := [5]) (k0 := 6) f.rd) ?_))
  rintro cd h df hm V ⟨_, rfl, ce⟩
  have cf := bv.n V
  refine Nv h rfl (ssr (mv d rfl (cr hm (fun _ => p127 (K := [5]) (k0 := 7) (f.up V).rd) ?_)))
  rintro ax dg ay hm W ⟨_, rfl, X⟩
  have cg := cf.n W
  refine Lw.ln ax X.rd rfl (mi rfl (nl (Cw.block ?_)))
  obtain ⟨ch, ci, hm⟩ := zaS hm
  refine Cw.loop 50 70 [13, 15, 50] (fun m l w => ∃ E F az Y G, CW.w G = w ∧ Le [6] ay G ∧ l = [az, Y, vI E] ∧ Ow G 6 [] [h] F ∧ Vm.za4 x0 ax ch m E F = some r) _ ⟨0, cd, undef, undef, ay, rfl, Le.refl _ _, rfl, (ce.up W), hm⟩ ?_
  rintro (_ | dh) _ _ σ ⟨E, F, az, Y, G, rfl, k, rfl, a0, hm⟩
  ·cases hm
  unfold Vm.za4 at hm
  have Z := cg.t k
  refine sr (Lw.lt rfl (nl (Cw.seq (cn hm (fun hm => ?_) fun hm => ?_))))
  ·refine sk (Cw.seq (Cw.block (sr ?_)))
   obtain ⟨a1, a3, hm⟩ := ob hm
   refine Lw.r rfl (R.ix (α := Int) (X.up k).rd a3 rfl rfl rfl) (Lw.r rfl (R.ld rfl rfl ((X.up k).rd.at_ a3).int) (Ni rfl (sr (la (((((an.up C).up e).up V).up W).up k) (mi rfl (cr hm (fun _ => p89 (k0 := 8) (Repo.rd (K := [0]) x0.Commits x0.Heads (B.ul Z) (M.ul Z))) ?_))))))
   rintro di dj dk hm a5 ⟨_, rfl, cj⟩
   refine cr hm (fun _ => p127 (K := [8]) (k0 := 9) cj.rd) ?_
   rintro a6 dl a7 hm a8 ⟨_, rfl, aa⟩
   refine Lw.ln a6 aa.rd rfl (mi rfl (nl (Cw.block ?_)))
   obtain ⟨ck, cl, hm⟩ := zaS hm
   refine Cw.loop 59 69 [15, 59] (fun m l w => ∃ H x ac b, CW.w b = w ∧ Le [6] a7 b ∧ l = [ac, vI H] ∧ Ow b 6 [] [h] x ∧ Vm.zbW a1 a6 ck m H x = some r) _ ⟨0, F, Y, a7, rfl, Le.refl _ _, rfl, ((a0.up a5).up a8), hm⟩ ?_
   rintro (_ | dm) _ _ σ ⟨H, x, ac, b, rfl, I, rfl, J, hm⟩
   ·cases hm
   unfold Vm.zbW at hm
   refine sr (Lw.lt rfl (nl (Cw.seq (cn hm (fun hm => ?_) fun hm => ?_))))
   ·refine sk ?_
    obtain ⟨cm, co, hm⟩ := zaS hm
    refine Cw.join 61 68 [15] (fun l w => ∃ L ae y, CW.w y = w ∧ Le [6] b y ∧ l = [ae] ∧ Ow y 6 [] [h] L ∧ cm L = some r) ?_ ?_
    ·rintro _ _ σ ⟨L, ae, y, rfl, cp, rfl, cq, hm⟩
     rw [co] at hm
     exact rg (Lw.add rfl (mi rfl (nl ((agm) ⟨w64 (H + 1), L, ae, y, rfl, (I.j cp).w, rfl, cq, hm⟩))))
    ·refine Cw.block (sr ?_)
     obtain ⟨a9, ba, hm⟩ := ob hm
     refine Lw.r rfl (R.ix (α := Int) (aa.up I).rd ba rfl rfl rfl) (Lw.r rfl (R.ld rfl rfl ((aa.up I).rd.at_ ba).int) (Ni rfl (sr (mi rfl (mi rfl (Lw.ne rfl (nl (cn hm (fun hm => ?_) fun hm => ?_))))))))
     ·refine rg (mv h rfl (mi rfl ?_))
      obtain ⟨dn, ct, hm⟩ := ob hm
      refine Lw.r rfl (R.ix (α := Bool) J.rd ct rfl rfl rfl) ?_
      obtain ⟨cu, cv, hm⟩ := ob hm
      refine Lw.u (T.stS (K' := []) J (rdB _) cv rfl rfl rfl) ?_
      rintro _ _ ⟨cw, rfl, cx, cy⟩
      exact nl ((ag) ⟨cu, vI a9, cw, rfl, cx, rfl, cy, hm⟩)
     ·exact sk ((ag) ⟨x, vI a9, b, rfl, Le.refl _ _, rfl, J, hm⟩)
   ·refine Cw.exit ?_
    rw [cl] at hm
    exact rg (Lw.add rfl (mi rfl (nl ((agm) ⟨w64 (E + 1), x, vI a1, ac, b, rfl, (((k.j a5).j a8).j I).w, rfl, J, hm⟩))))
  ·refine Cw.exit ?_
   rw [ci] at hm
   refine sr (mv h rfl (cr hm (fun _ => p127 (K := [6]) (k0 := 10) a0.rd) ?_))
   rintro dp bb dq hm cz ⟨_, rfl, c0⟩
   have c1 := Z.n cz
   refine Nv bb rfl ?_
   cases hm
   exact Cw.ret (zhB rfl (Res.mk c1 ⟨bb, rfl, c0.s.sub rfl rfl⟩))
theorem p137 {x0 b d x1 x2 k0 r} (f : Rd W K [b, d] x0) (hm : Vm.zet x0 x1 x2 = some r) : Q1 137 [.agg [b, d].toArray, vI x1, vI x2] W [] fun W' v => ∃ a, v = a ∧ Ow W' k0 [] [a] r :=
 (c137 (f.view _) hm).ad (fk k0) fun _ _ ⟨a, e, h⟩ => ⟨a, e, h.back (zfR _)⟩
theorem c79 {x0 d e x1 x2 r} (H : Rd W0 [0] [d, e] x0) (hm : Vm.zc3 x0 x1 x2 = some r) : Q0 79 [.agg [d, e].toArray, vI x1, vI x2] W0 fun Wf v => ∃ x, v = x ∧ Rd Wf [0] [x] r := by
 unfold Vm.zc3 at hm
 obtain ⟨Q, S, y, z, A⟩ := Repo.split H
 simp only [List.cons.injEq, and_true, true_and] at y
 obtain ⟨rfl, rfl⟩ := y
 refine zaj.of Tryz.func79 rfl rfl rfl rfl (sr (bo 2 rfl fun U V I B => ?_))
 have f := I.o
 refine Nv (.slice none 0 0) rfl (sr (la B (mi rfl (mi rfl (cr hm (fun _ => p137 (k0 := 3) (Repo.rd (K := [0]) x0.Commits x0.Heads (z.ul f) (A.ul f))) ?_)))))
 rintro C a W hm D ⟨_, rfl, E⟩
 have F := f.n D
 refine Nv a rfl (ssr (mv a rfl (Lw.ln C E.rd rfl (Lw.eq rfl (nl (cn hm (fun hm => ?_) fun hm => ?_))))))
 ·refine sr (Nv (.slice none 0 0) rfl ?_)
  cases hm
  exact Cw.ret (zhB rfl (Res.mk F ⟨.slice none 0 0, rfl, (rdN (K := [0]))⟩))
 ·refine sk (Cw.seq (Cw.draw [] [(0, 1), (1, 0), (2, 0), (3, 0), (4, 0), (5, 0), (6, 1), (7, 3), (8, 0)] mixed (by kernel_rfl) fun X h => ?_))
  have i := F.n h
  have b := E.up h
  refine Mw.q rfl rfl (fun _ c => R.lda (cs := [d, e]) (((B.up D).up h).clcs rfl c) rfl rfl) (Dv a rfl (Dv a rfl (Mw.p rfl rfl (fun _ => zs4 (xs := C) b.rd rfl) (Mw.p rfl rfl (fun _ => R.sub rfl rfl) ?_))))
  obtain ⟨Y, k, hm⟩ := ob hm
  refine Mw.p rfl rfl (fun _ => R.ix (α := Int) b.rd k rfl rfl rfl) (Mw.q rfl rfl (fun _ c => R.ld rfl rfl (zah (b.rd.at_ k).1 rfl (b.rd.at_ k).int c)) ?_)
  obtain ⟨Z, J, hm⟩ := ob hm
  refine Mw.l rfl rfl (T.call rfl (p80  (Repo.rd (K := [0]) x0.Commits x0.Heads (z.ul i) (A.ul i)) J)) ?_
  rintro G _ ⟨aa, rfl, L, ⟨_, rfl, N⟩⟩
  have O := N.sub (M := [0]) rfl
  have P := i.n L
  refine Hv G rfl (Mw.nil ?_)
  cases hm
  exact Cw.ret (zhB rfl (Res.mk P ⟨G, rfl, O⟩))
theorem p79 {x0 b d x1 x2 r} (f : Rd W K [b, d] x0) (hm : Vm.zc3 x0 x1 x2 = some r) : Q1 79 [.agg [b, d].toArray, vI x1, vI x2] W [] fun W' v => ∃ a, v = a ∧ Rd W' (0 :: K) [a] r :=
 (c79 (f.view _) hm).ad (fk 0) fun _ _ ⟨a, e, h⟩ => ⟨a, e, h.back rfl⟩
theorem c153 {x0 A x1 f r} (U : Rd W0 [0] [A] x0) (B : Rd W0 [0] [f] x1) (hm : Vm.zjw x0 x1 = some r) : Q0 153 [A, f] W0 fun Wf v => ∃ u0, v = u0 ∧ OwS Wf LL [] [u0] r := by
 unfold Vm.zjw at hm
 refine zaj.of Tryz.func153 rfl rfl rfl rfl (sr (Nv (.slice none 0 0) rfl (sr (mv A rfl (mv f rfl (cr hm (fun _ => p185 (k0 := 2) U B) ?_))))))
 rintro z1 b1 W3 hm l3 ⟨_, rfl, ax⟩
 have a4 := l3.o
 refine mv f rfl (Lw.ln x1 (B.ul a4) rfl (Lw.t rfl (T.bs 3 [vI (x1.length : Int)] (cs := [vI (x1.length : Int)]) rfl rfl (bsv rfl)) ?_))
 rintro _ _ ⟨g6, W6, rfl, rfl, l6, b6⟩
 have a7 := a4.n l6
 obtain ⟨q9, a0, hm⟩ := ob hm
 refine Lw.t rfl (T.app1S (α := Int) (K' := []) (ax.up l6) b6 (rdI _) rfl rfl a0) ?_
 rintro ai _ ⟨aj, rfl, a1, V⟩
 have a2 := a7.t a1
 refine Nv ai rfl (sr (Nv (.slice none 0 0) rfl (sr (Gi rfl (Ni rfl (ssr (mv ai rfl (Lw.ln q9 V.rd rfl (mi rfl (nl (Cw.block ?_)))))))))))
 obtain ⟨a3, a5, hm⟩ := zaS hm
 refine Cw.loop 20 54 [6, 7, 8, 9, 10, 20] (fun m l w => ∃ h b i e d ak am a, CW.w a = w ∧ Le [4, 5, 6] aj a ∧ l = [d, vI b, vI i, ak, am, vI e] ∧ Ow a 4 [] [d] h ∧ Vm.ze8 x0 x1 q9 a3 m h b i e = some r) _ ⟨([] : List Hunk), 0, 0, 0, .slice none 0 0, undef, undef, aj, rfl, Le.refl _ _, rfl, owN 4 [], hm⟩ ?_
 rintro (_ | b5) _ _ σ ⟨h, b, i, e, d, ak, am, a, rfl, C, rfl, D, hm⟩
 ·cases hm
 unfold Vm.ze8 at hm
 have an := a2.t C
 refine sr (Lw.lt rfl (nl (Cw.seq (cn hm (fun hm => ?_) fun hm => ?_))))
 ·refine sk ?_
  obtain ⟨a6, a8, hm⟩ := zaS hm
  refine Cw.join 22 53 [6, 7, 8, 9, 10] (fun l w => ∃ E F G H W X k, CW.w k = w ∧ Le [4, 5, 6] a k ∧ l = [H, vI F, vI G, W, X] ∧ Ow k 4 [] [H] E ∧ a6 E F G = some r) ?_ ?_
  ·rintro _ _ σ ⟨E, F, G, H, W, X, k, rfl, a9, rfl, ba, hm⟩
   rw [a8] at hm
   exact rg (Lw.add rfl (mi rfl (nl ((agm) ⟨E, F, G, w64 (e + 1), H, W, X, k, rfl, (C.j a9).w, rfl, ba, hm⟩))))
  ·refine Cw.block (sr (mi rfl ?_))
   obtain ⟨I, ao, hm⟩ := ob hm
   refine Lw.r rfl (R.ix (α := Int) (V.up C).rd ao rfl rfl rfl) (Lw.r rfl (R.ld rfl rfl ((V.up C).rd.at_ ao).int) (Gi rfl (Ni rfl (ssr (mi rfl (Lw.lt rfl (nl (cn hm (fun hm => ?_) fun hm => ?_))))))))
   ·exact Cw.exit ((ag) ⟨h, b, i, d, vI e, vI I, a, rfl, Le.refl _ _, rfl, D, hm⟩)
   ·refine sk ?_
    obtain ⟨bb, bc, hm⟩ := zaS hm
    refine Cw.join 27 49 [6] (fun l w => ∃ K L x, CW.w x = w ∧ Le [4, 5, 6] a x ∧ l = [L] ∧ Ow x 4 [] [L] K ∧ bb K = some r) ?_ ?_
    ·rintro _ _ σ ⟨K, L, x, rfl, be, rfl, bg, hm⟩
     rw [bc] at hm
     exact rg (mi rfl (Lw.add rfl (mi rfl (Lw.add rfl (Gi rfl (Ni rfl ((ag) ⟨K, w64 (e + 1), w64 (I + 1), L, vI e, vI I, x, rfl, be, rfl, bg, hm⟩)))))))
    ·obtain ⟨bh, bi, hm⟩ := zaS hm
     refine Cw.join 27 34 [34] (fun l w => ∃ Y M, CW.w M = w ∧ Le [] a M ∧ l = [vB Y] ∧ bh Y = some r) ?_ ?_
     ·rintro _ _ σ ⟨Y, M, rfl, y, rfl, hm⟩
      rw [bi] at hm
      have bj := an.n y
      refine cn hm (fun hm => ?_) fun hm => ?_
      ·refine Cw.draw [] [(0, 0), (1, 0), (2, 0), (3, 0), (4, 0), (5, 0), (7, 0), (8, 0), (9, 0), (10, 0), (6, 3), (11, 3), (12, 0), (13, 3), (14, 3), (15, 0)] mixed (by kernel_rfl) fun b7 Z => ?_
       have N := bj.n Z
       refine Dv d rfl (Di rfl (Dv A rfl (Di rfl (Di rfl ?_))))
       obtain ⟨b8, ap, hm⟩ := ob hm
       have r69 := (U.ul N).cutV ap
       refine Mw.p rfl rfl (fun _ => R.sl (U.ul N) ap rfl (.inr rfl) (.inr rfl)) (Dv f rfl (Di rfl (Di rfl ?_)))
       obtain ⟨b9, aq, hm⟩ := ob hm
       have r74 := (B.ul N).cutV aq
       refine Mw.p rfl rfl (fun _ => R.sl (B.ul N) aq rfl (.inr rfl) (.inr rfl)) ?_
       obtain ⟨bk, bl, hm⟩ := ob hm
       refine Mw.l rfl rfl (T.call rfl (p144 (k0 := 5) r69 bl)) ?_
       rintro O _ ⟨cb, rfl, aa, ⟨_, rfl, ar⟩⟩
       have bm := aa.o
       obtain ⟨bn, bp, hm⟩ := ob hm
       refine Mw.l rfl rfl (T.call rfl (p144 (k0 := 6) (r74.ul bm) bp)) ?_
       rintro P _ ⟨cc, rfl, Q, ⟨_, rfl, au⟩⟩
       refine Mw.p rfl rfl (fun _ => R.bd (zs := [vI 0, .slice none 0 0, .slice none 0 0]) (cs := [vI b, O, P]) [(0, vI b), (1, O), (2, P)] rfl rfl rfl (zaD rfl rfl (zaD (ar.up Q).oc rfl (zaD au.oc rfl zdN)))) (Mw.l rfl rfl (T.bs 7 [.agg [vI b, O, P].toArray] (cs := [vI b, O, P]) rfl rfl (bsA rfl)) ?_)
       rintro _ _ ⟨cd, ce, rfl, rfl, S, bq⟩
       obtain ⟨br, bu, hm⟩ := ob hm
       refine Mw.l rfl rfl (T.app1 (α := Hunk) (J := [5, 6]) (K' := []) (((((D.up y).up Z).up aa).up Q).up S) bq (Hunk.own b bk bn ((ar.up Q).up S).s (au.up S).s) rfl rfl bu) ?_
       rintro av _ ⟨bv, rfl, bw, bz⟩
       exact Hv av rfl (Mw.nil ((ag) ⟨br, av, bv, rfl, (((((y.j Z).j aa).j Q).j S).j bw).w, rfl, bz, hm⟩))
      ·exact sk ((ag) ⟨h, d, M, rfl, y.w, rfl, (D.up y), hm⟩)
     ·refine rg (mi rfl (mi rfl (Lw.gt rfl (mb rfl (bs hm (fun z hm => ?_) fun z hm => ?_)))))
      ·exact psk 3 z rfl (Pb z rfl (nl ((ag) ⟨true, a, rfl, Le.refl _ _, rfl, hm⟩)))
      ·exact wak 3 z (mi rfl (mi rfl (Lw.gt rfl (Pb z rfl (nl ((ag) ⟨decide ((i : Int) < (I : Int)), a, rfl, Le.refl _ _, rfl, hm⟩))))))
 ·refine Cw.exit ?_
  rw [a5] at hm
  refine sr (mv d rfl (Nv d rfl ?_))
  cases hm
  exact Cw.ret (zhB rfl (Res.mk an ⟨d, rfl, D.s.sub rfl rfl⟩))
theorem p153 {x0 b x1 d k0 r} (f : Rd W K [b] x0) (h : Rd W K [d] x1) (hm : Vm.zjw x0 x1 = some r) : Q1 153 [b, d] W [] fun W' v => ∃ a, v = a ∧ Ow W' k0 [] [a] r :=
 (c153 (f.view _) (h.view _) hm).ad (fk k0) fun _ _ ⟨a, e, i⟩ => ⟨a, e, i.back (zfR _)⟩
theorem c154 {x0 b x1 r} (h : Rd W0 [0] [b] x0) (hm : Vm.zbd x0 x1 = some r) : Q0 154 [b, vS x1] W0 fun Wf v => v = vI r := by
 unfold Vm.zbd at hm
 refine zaj.of Tryz.func154 rfl rfl rfl rfl (sr (Ni rfl (ssr (mv b rfl (Lw.ln x0 h rfl (mi rfl (nl (Cw.block ?_))))))))
 obtain ⟨y, z, hm⟩ := zaS hm
 refine Cw.loop 8 18 [4, 5, 8] (fun m l w => ∃ d a i e, CW.w e = w ∧ Le [] W0 e ∧ l = [vI d, i, vI a] ∧ Vm.zaC x0 x1 y m d a = some r) _ ⟨0, 0, undef, W0, rfl, Le.refl _ _, rfl, hm⟩ ?_
 rintro (_ | A) _ _ σ ⟨d, a, i, e, rfl, k, rfl, hm⟩
 ·cases hm
 unfold Vm.zaC at hm
 have f := k.o
 refine sr (Lw.lt rfl (nl (Cw.seq (cn hm (fun hm => ?_) fun hm => ?_))))
 ·refine sk (Cw.seq (Cw.block (sr (mi rfl (Ni rfl (sr (ms rfl (mv b rfl (mi rfl ?_)))))))))
  obtain ⟨B, x, hm⟩ := ob hm
  refine Lw.r rfl (R.ix (α := Str) (h.ul f) x rfl rfl rfl) (Lw.r rfl (R.ld rfl rfl ((h.ul f).at_ x).str) (Lw.seq rfl (nl (cn hm (fun hm => ?_) fun hm => ?_))))
  ·exact sr (mi rfl (Ni rfl (.ret (rt hm f))))
  ·exact sk (rg (Lw.add rfl (mi rfl (nl ((agm) ⟨d, w64 (a + 1), vI a, e, rfl, k, rfl, hm⟩)))))
 ·refine Cw.exit ?_
  rw [z] at hm
  exact sr (Ni rfl (.ret (rt hm f)))
theorem p154 {x0 a x1 r} (b : Rd W K [a] x0) (hm : Vm.zbd x0 x1 = some r) : Q1 154 [a, vS x1] W [] fun W' v => v = vI r :=
 (c154 (b.view _) hm).ad (fk 0) fun _ _ e => e
theorem c102 {x0 a x1 r} (b : Rd W0 [0] [a] x0) (hm : Vm.zaH x0 x1 = some r) : Q0 102 [a, vS x1] W0 fun Wf v => v = vB r := by
 unfold Vm.zaH at hm
 refine zaj.of Tryz.func102 rfl rfl rfl rfl (sr (Nb rfl (sr (mv a rfl (ms rfl (ca hm (fun _ => p154 b) fun f h hm d => ?_))))))
 have e := d.o
 exact Lw.ge rfl (Nb rfl (.ret (rt hm e)))
theorem p102 {x0 a x1 r} (b : Rd W K [a] x0) (hm : Vm.zaH x0 x1 = some r) : Q1 102 [a, vS x1] W [] fun W' v => v = vB r :=
 (c102 (b.view _) hm).ad (fk 0) fun _ _ e => e
end Go.Sx
