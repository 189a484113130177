/- Walks: each function answers as its model, printed by a program of ours. Conditions: the arguments read as they are given. -/
import Derived.Test.YtokbhelngoeblaaGreatDoorGTs
import Derived.Test.YtokbhelngoeblaaGreatDoorGM2
import Derived.Test.YtokbhelngoeblaaGreatDoorGW0
import Derived.Test.YtokbhelngoeblaaGreatDoorGW1
namespace Go.Sx
open Go Go.Proofs Go.Vm Rp
set_option linter.unusedVariables false
set_option linter.unusedSimpArgs false
variable {W W0 : CW} {K : List Nat}
theorem c90 {x0 x1 r} (e : Rd W0 [0] [vS x0.Path, vS x0.Who] x0) (hm : Vm.zh6 x0 x1 = some r) : Q0 90 [.agg [vS x0.Path, vS x0.Who].toArray, vI x1] W0 fun Wf v => v = vI r := by
 unfold Vm.zh6 at hm
 refine zaj.of Tryz.func90 rfl rfl rfl rfl (sr (bo 2 rfl fun f h d b => ?_))
 have a := d.o
 refine Ni rfl (sr (mi rfl (fl b rfl (Lw.r rfl (R.lenS rfl) (Lw.sub rfl (Ni rfl (ssr (mi rfl (Lw.lt rfl (nl (cn hm (fun hm => ?_) fun hm => ?_)))))))))))
 ·exact sr (Ni rfl (.ret (rt hm a)))
 ·refine sk (sr (mi rfl (fl b rfl (Lw.r rfl (R.lenS rfl) (Lw.sub rfl (Ni rfl (ssr (mi rfl (Lw.lt rfl (nl (cn hm (fun hm => ?_) fun hm => ?_)))))))))))
  ·exact sr (Ni rfl (.ret (rt hm a)))
  ·exact sk (sr (mi rfl (Ni rfl (.ret (rt hm a)))))
theorem p90 {x0 x1 r} (a : Rd W K [vS x0.Path, vS x0.Who] x0) (hm : Vm.zh6 x0 x1 = some r) : Q1 90 [.agg [vS x0.Path, vS x0.Who].toArray, vI x1] W [] fun W' v => v = vI r :=
 (c90 (a.view _) hm).ad (fk 0) fun _ _ e => e
theorem c25 {x0 a x1 r} (k : Rd W0 [0] [a] x0) (hm : Vm.zhs x0 x1 = some r) : Q0 25 [a, vI x1] W0 fun Wf v => v = vI r := by
 unfold Vm.zhs at hm
 refine zaj.of Tryz.func25 rfl rfl rfl rfl (sr (Ni rfl (sr (mi rfl (mv a rfl (Lw.ln x0 k rfl (Lw.sub rfl (Ni rfl (ssr (mi rfl (Lw.lt rfl (nl (cn hm (fun hm => ?_) fun hm => ?_)))))))))))))
 ·exact sr (Ni rfl (.ret (rt hm (Le.refl _ _))))
 ·refine sk (ssr (Ni rfl (Cw.block ?_)))
  obtain ⟨B, C, hm⟩ := zaS hm
  refine Cw.loop 12 25 [1, 4, 5] (fun m l w => ∃ e b d f, CW.w f = w ∧ Le [] W0 f ∧ l = [vI e, vI b, vI d] ∧ Vm.zeK x0 B m e b d = some r) _ ⟨w64 (x1 - (x0.length : Int)), 0, 0, W0, rfl, Le.refl _ _, rfl, hm⟩ ?_
  rintro (_ | G) _ _ σ ⟨e, b, d, f, rfl, x, rfl, hm⟩
  ·cases hm
  unfold Vm.zeK at hm
  have h := x.o
  refine ssr ?_
  have i := k.ul h
  refine mi rfl (mv a rfl (Lw.ln x0 i rfl (Lw.lt rfl (nl (cn hm (fun hm => ?_) fun hm => ?_)))))
  ·refine sk (Cw.seq (Cw.block (sr (mv a rfl (mi rfl ?_)))))
   obtain ⟨y, z, hm⟩ := ob hm
   refine Lw.r rfl (R.ix (α := Owner) i z rfl rfl rfl) ?_
   obtain ⟨x13, c14, _, r15⟩ := (i.at_ z).cells
   obtain rfl := Owner.split r15
   refine Lw.r rfl (R.lda c14 rfl rfl) (mi rfl (ca hm (fun _ => p90 (Owner.rd (K := [0]) y.Path y.Who )) fun D E hm A => ?_))
   have F := h.n A
   refine Ni rfl (sr (mi rfl (Lw.lt rfl (nl (cn hm (fun hm => ?_) fun hm => ?_)))))
   ·exact sr (Ni rfl (.ret (rt hm F)))
   ·exact sk (rg (mi rfl (Lw.add rfl (Ni rfl ((agm) ⟨D, b, w64 (d + 1), E, rfl, (x.j A).w, rfl, hm⟩)))))
  ·refine Cw.exit ?_
   rw [C] at hm
   exact sr (mi rfl (Ni rfl (.ret (rt hm h))))
theorem p25 {x0 a x1 r} (b : Rd W K [a] x0) (hm : Vm.zhs x0 x1 = some r) : Q1 25 [a, vI x1] W [] fun W' v => v = vI r :=
 (c25 (b.view _) hm).ad (fk 0) fun _ _ e => e
theorem c26 {x0 d x1 r} (h : Rd W0 [0] [vS x0.Branch, vS x0.Into, vS x0.By, d] x0) (hm : Vm.zht x0 x1 = some r) : Q0 26 [.agg [vS x0.Branch, vS x0.Into, vS x0.By, d].toArray, vI x1] W0 fun Wf v => v = vI r := by
 unfold Vm.zht at hm
 obtain ⟨y, e, i⟩ := Review.split h
 simp only [List.cons.injEq, and_true, true_and] at e
 obtain rfl := e
 refine zaj.of Tryz.func26 rfl rfl rfl rfl (sr (bo 2 rfl fun z A k b => ?_))
 have a := k.o
 refine Ni rfl (sr (mi rfl (fl b rfl (Lw.r rfl (R.lenS rfl) (Lw.sub rfl (Ni rfl (ssr (mi rfl (Lw.lt rfl (nl (cn hm (fun hm => ?_) fun hm => ?_)))))))))))
 ·exact sr (Ni rfl (.ret (rt hm a)))
 ·refine sk (sr (mi rfl (fl b rfl (Lw.r rfl (R.lenS rfl) (Lw.sub rfl (Ni rfl (ssr (mi rfl (Lw.lt rfl (nl (cn hm (fun hm => ?_) fun hm => ?_)))))))))))
  ·exact sr (Ni rfl (.ret (rt hm a)))
  ·refine sk (sr (mi rfl (fl b rfl (Lw.r rfl (R.lenS rfl) (Lw.sub rfl (Ni rfl (ssr (mi rfl (Lw.lt rfl (nl (cn hm (fun hm => ?_) fun hm => ?_)))))))))))
   ·exact sr (Ni rfl (.ret (rt hm a)))
   ·refine sk (sr (fl b rfl (mi rfl (ca hm (fun _ => p91 (i.ul a)) fun B C hm x => ?_))))
    have f := a.n x
    refine Ni rfl (ssr (mi rfl (Lw.lt rfl (nl (cn hm (fun hm => ?_) fun hm => ?_)))))
    ·exact sr (Ni rfl (.ret (rt hm f)))
    ·exact sk (sr (mi rfl (Ni rfl (.ret (rt hm f)))))
theorem p26 {x0 a x1 r} (b : Rd W K [vS x0.Branch, vS x0.Into, vS x0.By, a] x0) (hm : Vm.zht x0 x1 = some r) : Q1 26 [.agg [vS x0.Branch, vS x0.Into, vS x0.By, a].toArray, vI x1] W [] fun W' v => v = vI r :=
 (c26 (b.view _) hm).ad (fk 0) fun _ _ e => e
theorem c95 {x0 r} (H : Rd W0 [0] [vS x0.Path, vS x0.Who] x0) (hm : Vm.zh7 x0 = some r) : Q0 95 [.agg [vS x0.Path, vS x0.Who].toArray] W0 fun Wf v => v = .agg [vS r.Path, vS r.Who].toArray := by
 unfold Vm.zh7 at hm
 refine zaj.of Tryz.func95 rfl rfl rfl rfl (sr (bo 2 rfl fun I J f h => ?_))
 have i := f.o
 refine al 3 [vS ([] : Str), vS ([] : Str)] fun K L b k => ?_
 have x := i.n b
 refine nl (sr (al 4 [vS ([] : Str), vS ([] : Str)] fun M N a y => ?_))
 have z := x.n a
 have d := (h.up b).up a
 refine nl (sr (fl d rfl (Lw.fa rfl (Lw.u (T.st (j := 0) (v := vS x0.Path) y rfl rfl rfl rfl rfl) ?_))))
 rintro _ _ ⟨O, rfl, l10, A⟩
 have B := z.t l10
 refine nl (sr (fl (d.up l10) rfl (Lw.fa rfl (Lw.u (T.st (j := 1) (v := vS x0.Who) A rfl rfl rfl rfl rfl) ?_))))
 rintro _ _ ⟨P, rfl, e, C⟩
 have D := B.t e
 refine nl (sr (la C (sta (((k.up a).up l10).up e) (zaa rfl (zaa rfl zaR)) fun Q E F => ?_)))
 have G := D.t E
 refine nl ?_
 cases hm
 exact Cw.ret (zlH rfl F (Res.mk G rfl))
theorem p95 {x0 r} (a : Rd W K [vS x0.Path, vS x0.Who] x0) (hm : Vm.zh7 x0 = some r) : Q1 95 [.agg [vS x0.Path, vS x0.Who].toArray] W [] fun W' v => v = .agg [vS r.Path, vS r.Who].toArray :=
 (c95 (a.view _) hm).ad (fk 0) fun _ _ e => e
theorem c28 {x0 b r} (d : Rd W0 [0] [b] x0) (hm : Vm.zeU x0 = some r) : Q0 28 [b] W0 fun Wf v => ∃ y, v = y ∧ OwS Wf LL [] [y] r := by
 unfold Vm.zeU at hm
 refine zaj.of Tryz.func28 rfl rfl rfl rfl (sr (Nv (.slice none 0 0) rfl (sr (mv b rfl (Lw.ln x0 d rfl ?_)))))
 obtain ⟨E, F, hm⟩ := ob hm
 refine Lw.t rfl (T.mk (α := Owner) 2 [] (n := (x0.length : Int)) rfl rfl F) ?_
 rintro a _ ⟨z, rfl, G, H⟩
 have I := G.o
 refine Nv a rfl (ssr (Ni rfl (Cw.block ?_)))
 obtain ⟨J, L, hm⟩ := zaS hm
 refine Cw.loop 8 21 [4] (fun m l w => ∃ e i f, CW.w f = w ∧ Le [2] z f ∧ l = [vI e] ∧ Ow f 2 [] [a] i ∧ Vm.zeL x0 J m e i = some r) _ ⟨0, E, z, rfl, Le.refl _ _, rfl, H, hm⟩ ?_
 rintro (_ | U) _ _ σ ⟨e, i, f, rfl, A, rfl, k, hm⟩
 ·cases hm
 unfold Vm.zeL at hm
 have h := I.t A
 refine ssr (mi rfl (mv b rfl (Lw.ln x0 (d.ul h) rfl (Lw.lt rfl (nl (cn hm (fun hm => ?_) fun hm => ?_))))))
 ·refine sk (Cw.seq (Cw.block (rg (mv a rfl (mi rfl (mv b rfl (mi rfl ?_)))))))
  obtain ⟨B, C, hm⟩ := ob hm
  refine Lw.r rfl (R.ix (α := Owner) (d.ul h) C rfl rfl rfl) ?_
  obtain ⟨x16, c17, _, r18⟩ := ((d.ul h).at_ C).cells
  obtain rfl := Owner.split r18
  refine Lw.r rfl (R.lda c17 rfl rfl) (ca hm (fun _ => p95 (Owner.rd (K := [0]) B.Path B.Who )) fun D V hm x => ?_)
  obtain ⟨W, M, hm⟩ := ob hm
  refine Lw.r rfl (R.ix (α := Owner) (k.up x).rd M rfl rfl rfl) ?_
  obtain ⟨N, O, hm⟩ := ob hm
  refine Lw.u (T.stS (K' := []) (k.up x) (Owner.rd (K := []) D.Path D.Who) O rfl rfl rfl) ?_
  rintro _ _ ⟨P, rfl, Q, S⟩
  exact nl (rg (mi rfl (Lw.add rfl (Ni rfl ((agm) ⟨w64 (e + 1), N, P, rfl, ((A.j x).j Q).w, rfl, S, hm⟩)))))
 ·refine Cw.exit ?_
  rw [L] at hm
  refine sr (mv a rfl (Nv a rfl ?_))
  cases hm
  exact Cw.ret (zhB rfl (Res.mk h ⟨a, rfl, k.s.sub rfl rfl⟩))
theorem p28 {x0 b k0 r} (d : Rd W K [b] x0) (hm : Vm.zeU x0 = some r) : Q1 28 [b] W [] fun W' v => ∃ a, v = a ∧ Ow W' k0 [] [a] r :=
 (c28 (d.view _) hm).ad (fk k0) fun _ _ ⟨a, e, f⟩ => ⟨a, e, f.back (zfR _)⟩
theorem c29 {x0 k r} (E : Rd W0 [0] [vS x0.Branch, vS x0.Into, vS x0.By, k] x0) (hm : Vm.zeV x0 = some r) : Q0 29 [.agg [vS x0.Branch, vS x0.Into, vS x0.By, k].toArray] W0 fun Wf v => ∃ x, v = .agg [vS r.Branch, vS r.Into, vS r.By, x].toArray ∧ OwS Wf LL [] [x] r.Yes := by
 unfold Vm.zeV at hm
 obtain ⟨Y, y, F⟩ := Review.split E
 simp only [List.cons.injEq, and_true, true_and] at y
 obtain rfl := y
 refine zaj.of Tryz.func29 rfl rfl rfl rfl (sr (bo 2 rfl fun Z W1 G H => ?_))
 have I := G.o
 refine al 3 [vS ([] : Str), vS ([] : Str), vS ([] : Str), .slice none 0 0] fun g3 W3 z J => ?_
 have K := I.n z
 refine nl (sr (al 4 [vS ([] : Str), vS ([] : Str), vS ([] : Str), .slice none 0 0] fun g6 W6 b L => ?_))
 have M := K.n b
 have d := (H.up z).up b
 refine nl (sr (fl d rfl (Lw.fa rfl (Lw.u (T.st (j := 0) (v := vS x0.Branch) L rfl rfl rfl rfl rfl) ?_))))
 rintro _ _ ⟨ai, rfl, l10, N⟩
 have O := M.t l10
 refine nl (sr (fl (d.up l10) rfl (Lw.fa rfl (Lw.u (T.st (j := 1) (v := vS x0.Into) N rfl rfl rfl rfl rfl) ?_))))
 rintro _ _ ⟨aj, rfl, e, P⟩
 have Q := O.t e
 have A := (d.up l10).up e
 refine nl (sr (fl A rfl (Lw.fa rfl (Lw.u (T.st (j := 2) (v := vS x0.By) P rfl rfl rfl rfl rfl) ?_))))
 rintro _ _ ⟨ak, rfl, f, R⟩
 have B := Q.t f
 refine nl (sr (fl (A.up f) rfl (cr hm (fun _ => p96 (k0 := 5) (F.ul B)) ?_)))
 rintro am C an hm h ⟨_, rfl, i⟩
 have S := B.n h
 refine Lw.fa rfl (Lw.u (T.st (j := 3) (v := C) (R.up h) rfl rfl i.oc rfl rfl) ?_)
 rintro _ _ ⟨ao, rfl, a, U⟩
 have V := S.t a
 refine nl (sr (la U (sta ((((((J.up b).up l10).up e).up f).up h).up a) (zaa rfl (zaa rfl (zaa rfl (zaa (i.up a).oc zaR)))) fun ap D W => ?_)))
 have X := V.t D
 refine nl ?_
 cases hm
 exact Cw.ret (zlH rfl W (Res.mk X ⟨C, rfl, ((i.up a).up D).s.sub rfl rfl⟩))
theorem p29 {x0 b k0 r} (d : Rd W K [vS x0.Branch, vS x0.Into, vS x0.By, b] x0) (hm : Vm.zeV x0 = some r) : Q1 29 [.agg [vS x0.Branch, vS x0.Into, vS x0.By, b].toArray] W [] fun W' v => ∃ a, v = .agg [vS r.Branch, vS r.Into, vS r.By, a].toArray ∧ Ow W' k0 [] [a] r.Yes :=
 (c29 (d.view _) hm).ad (fk k0) fun _ _ ⟨a, e, f⟩ => ⟨a, e, f.back (zfR _)⟩
theorem c92 {x0 h r} (E : Rd W0 [0] [h] x0) (hm : Vm.ze3 x0 = some r) : Q0 92 [h] W0 fun Wf v => v = vB r := by
 unfold Vm.ze3 at hm
 refine zaj.of Tryz.func92 rfl rfl rfl rfl (sr (Nb rfl (ssr (Ni rfl (Cw.block ?_)))))
 obtain ⟨M, N, hm⟩ := zaS hm
 refine Cw.loop 4 43 [2, 3] (fun m l w => ∃ z f A, CW.w A = w ∧ Le [] W0 A ∧ l = [vB z, vI f] ∧ Vm.zcs x0 M m z f = some r) _ ⟨false, 0, W0, rfl, Le.refl _ _, rfl, hm⟩ ?_
 rintro (_ | Y) _ _ σ ⟨z, f, A, rfl, L, rfl, hm⟩
 ·cases hm
 unfold Vm.zcs at hm
 have x := L.o
 refine ssr (mi rfl (mv h rfl (Lw.ln x0 (E.ul x) rfl (Lw.lt rfl (nl (cn hm (fun hm => ?_) fun hm => ?_))))))
 ·refine sk (Cw.seq (Cw.block ?_))
  obtain ⟨O, P, hm⟩ := zaS hm
  refine Cw.join 10 43 [43] (fun l w => ∃ F B, CW.w B = w ∧ Le [] A B ∧ l = [vB F] ∧ O F = some r) ?_ ?_
  ·rintro _ _ σ ⟨F, B, rfl, l10, rfl, hm⟩
   rw [P] at hm
   have Q := x.n l10
   refine cn hm (fun hm => ?_) fun hm => ?_
   ·exact sr (Nb rfl (.ret (rt hm Q)))
   ·exact sk (rg (mi rfl (Lw.add rfl (Ni rfl ((agm) ⟨z, w64 (f + 1), B, rfl, (L.j l10).w, rfl, hm⟩)))))
  ·refine Cw.draw [] [(0, 0), (1, 0), (2, 0), (3, 0), (4, 1), (5, 2), (6, 0), (7, 0), (8, 0), (9, 0), (10, 0), (11, 0), (12, 1), (13, 2), (14, 0), (15, 0), (16, 0), (17, 0), (18, 0), (19, 0), (20, 0), (21, 0), (22, 0), (23, 0), (24, 1), (25, 0), (26, 0), (27, 0), (28, 0), (29, 0), (30, 1), (31, 0), (32, 0), (33, 0)] mixed (by kernel_rfl) fun Z y => ?_
   have S := x.n y
   refine Dv h rfl (Di rfl ?_)
   obtain ⟨aa, G, hm⟩ := ob hm
   have b := E.ul S
   refine Mw.p rfl rfl (fun _ => R.ix (α := Owner) b G rfl rfl rfl) (Df rfl (Mw.q rfl rfl (fun _ c => R.ld rfl rfl (zah (Owner.at0 (b.at_ G)).1 rfl (Owner.at0 (b.at_ G)).str c)) (Dc hm (Le.refl _ _) (fun _ => p145) rfl ?_)))
   rintro ac _ U hm C rfl V
   refine Mw.p rfl rfl (fun _ => R.not rfl) (Db rfl (bs hm (fun d hm => ?_) fun d hm => ?_))
   ·exact dps 7 d rfl (Mw.p rfl rfl (fun _ => R.pk d rfl (v := vB true) rfl) (Db rfl (dps 3 rfl rfl (dpu 12 rfl (dps 1 rfl rfl (Mw.p rfl rfl (fun _ => R.pk rfl rfl (v := vB true) rfl) (Mw.nil ((ag) ⟨true, U, rfl, (y.j C).w, rfl, hm⟩))))))))
   ·refine Wp d rfl (fun _ => R.mv (v := h) rfl) (Wp d rfl (fun _ => R.mv (v := vI f) rfl) ?_)
    obtain ⟨ae, H, hm⟩ := ob hm
    refine Wp d rfl (fun _ => R.ix (α := Owner) b H rfl rfl rfl) (Wp d rfl (fun _ => R.fa rfl) (Wq d rfl (fun _ c => R.ld rfl rfl (zah (Owner.at1 (b.at_ H)).1 rfl (Owner.at1 (b.at_ H)).str c)) ?_))
    obtain ⟨W, X, hm⟩ := ob hm
    refine Wt d rfl (T.call rfl (p113   X)) ?_
    rintro _ _ ⟨I, rfl, D, rfl⟩
    refine mc V D fun af => Wp d rfl (fun _ => R.not rfl) (Mw.p rfl rfl (fun _ => R.pk d rfl (v := vB (!W)) rfl) (Db rfl (bs hm (fun e hm => ?_) fun e hm => ?_)))
    ·exact dps 3 e rfl (dpu 12 rfl (dps 1 e rfl (Mw.p rfl rfl (fun _ => R.pk e rfl (v := vB true) rfl) (Mw.nil ((ag) ⟨true, I, rfl, ((y.j C).j D).w, rfl, hm⟩)))))
    ·refine Wp e rfl (fun _ => R.mv (v := vI f) rfl) (Wp e rfl (fun _ => R.gt rfl rfl) (Wp e rfl (fun _ => R.mv (v := vB (decide ((0 : Int) < (f : Int)))) rfl) (bs hm (fun a hm => ?_) fun a hm => ?_)))
     ·refine Wp a rfl (fun _ => R.mv (v := h) rfl) (Wp a rfl (fun _ => R.mv (v := vI f) rfl) ?_)
      obtain ⟨i, J, hm⟩ := ob hm
      refine Wp a rfl (fun _ => R.ix (α := Owner) b J rfl rfl rfl) (Wp a rfl (fun _ => R.fa rfl) (Wq a rfl (fun _ c => R.ld rfl rfl (zah (Owner.at0 (b.at_ J)).1 rfl (Owner.at0 (b.at_ J)).str c)) (Wp a rfl (fun _ => R.mv (v := h) rfl) (Wp a rfl (fun _ => R.mv (v := vI f) rfl) (Wp a rfl (fun _ => R.sub rfl rfl) ?_)))))
      obtain ⟨k, K, hm⟩ := ob hm
      exact Wp a rfl (fun _ => R.ix (α := Owner) b K rfl rfl rfl) (Wp a rfl (fun _ => R.fa rfl) (Wq a rfl (fun _ c => R.ld rfl rfl (zah (Owner.at0 (b.at_ K)).1 rfl (Owner.at0 (b.at_ K)).str c)) (Wp a rfl (fun _ => R.sle rfl rfl) (Wp e rfl (fun _ => R.pk a rfl (v := vB (Op.bytesLess i.Path k.Path || i.Path == k.Path)) rfl) (Mw.p rfl rfl (fun _ => R.pk e rfl (v := vB (Op.bytesLess i.Path k.Path || i.Path == k.Path)) rfl) (Mw.nil ((ag) ⟨(Op.bytesLess i.Path k.Path || i.Path == k.Path), I, rfl, ((y.j C).j D).w, rfl, hm⟩)))))))
     ·exact dps 12 a rfl (Wp e rfl (fun _ => R.pk a rfl (v := vB false) rfl) (Mw.p rfl rfl (fun _ => R.pk e rfl (v := vB false) rfl) (Mw.nil ((ag) ⟨false, I, rfl, ((y.j C).j D).w, rfl, hm⟩))))
 ·refine Cw.exit ?_
  rw [N] at hm
  exact sr (mv h rfl (Lw.ln x0 (E.ul x) rfl (Lw.le rfl (Nb rfl (.ret (rt hm x))))))
theorem p92 {x0 a r} (b : Rd W K [a] x0) (hm : Vm.ze3 x0 = some r) : Q1 92 [a] W [] fun W' v => v = vB r :=
 (c92 (b.view _) hm).ad (fk 0) fun _ _ e => e
theorem c93 {x0 G r} (h0 : Rd W0 [0] [vS x0.Branch, vS x0.Into, vS x0.By, G] x0) (hm : Vm.zh8 x0 = some r) : Q0 93 [.agg [vS x0.Branch, vS x0.Into, vS x0.By, G].toArray] W0 fun Wf v => v = vB r := by
 unfold Vm.zh8 at hm
 obtain ⟨a0, X, J⟩ := Review.split h0
 simp only [List.cons.injEq, and_true, true_and] at X
 obtain rfl := X
 refine zaj.of Tryz.func93 rfl rfl rfl rfl (sr (bo 2 rfl fun g1 Y l1 b1 => ?_))
 have a2 := l1.o
 refine Nb rfl (ssr (Ni rfl (Cw.block ?_)))
 obtain ⟨K6, aj, hm⟩ := zaS hm
 refine Cw.loop 4 35 [2, 3] (fun m l w => ∃ H e x, CW.w x = w ∧ Le [] Y x ∧ l = [vB H, vI e] ∧ Vm.zej x0 K6 m H e = some r) _ ⟨false, 0, Y, rfl, Le.refl _ _, rfl, hm⟩ ?_
 rintro (_ | m7) _ _ σ ⟨H, e, x, rfl, K, rfl, hm⟩
 ·cases hm
 unfold Vm.zej at hm
 have y := a2.n K
 have z := b1.up K
 refine ssr (mi rfl (fl z rfl (Lw.ln x0.Yes (J.ul y) rfl (Lw.lt rfl (nl (cn hm (fun hm => ?_) fun hm => ?_))))))
 ·refine sk (Cw.seq (Cw.block ?_))
  obtain ⟨ak, am, hm⟩ := zaS hm
  refine Cw.join 11 35 [35] (fun l w => ∃ L I, CW.w I = w ∧ Le [] x I ∧ l = [vB L] ∧ ak L = some r) ?_ ?_
  ·rintro _ _ σ ⟨L, I, rfl, Z, rfl, hm⟩
   rw [am] at hm
   have an := y.n Z
   refine cn hm (fun hm => ?_) fun hm => ?_
   ·exact sr (Nb rfl (.ret (rt hm an)))
   ·exact sk (rg (mi rfl (Lw.add rfl (Ni rfl ((agm) ⟨H, w64 (e + 1), I, rfl, (K.j Z).w, rfl, hm⟩)))))
  ·refine Cw.draw [] [(0, 0), (1, 1), (2, 0), (3, 0), (4, 1), (5, 2), (6, 0), (7, 0), (8, 0), (9, 0), (10, 0), (11, 0), (12, 1), (13, 0), (14, 0), (15, 1), (16, 0), (17, 1), (18, 0), (19, 0), (20, 0), (21, 1), (22, 0), (23, 0), (24, 0)] mixed (by kernel_rfl) fun a4 A => ?_
   have ao := y.n A
   have M := z.up A
   refine Dfl M rfl rfl rfl (Di rfl ?_)
   obtain ⟨a5, N, hm⟩ := ob hm
   have d := J.ul ao
   refine Mw.p rfl rfl (fun _ => R.ix (α := Str) d N rfl rfl rfl) (Mw.q rfl rfl (fun _ c => R.ld rfl rfl (zah (d.at_ N).1 rfl (d.at_ N).str c)) (Dc hm (Le.refl _ _) (fun _ => p113) rfl ?_))
   rintro a6 _ O hm P rfl a7
   refine Mw.p rfl rfl (fun _ => R.not rfl) (Db rfl (bs hm (fun b hm => ?_) fun b hm => ?_))
   ·exact dps 3 b rfl (dpu 12 rfl (dps 1 b rfl (Mw.p rfl rfl (fun _ => R.pk b rfl (v := vB true) rfl) (Mw.nil ((ag) ⟨true, O, rfl, (A.j P).w, rfl, hm⟩)))))
   ·refine Wp b rfl (fun _ => R.mv (v := vI e) rfl) (Wp b rfl (fun _ => R.gt rfl rfl) (Wp b rfl (fun _ => R.mv (v := vB (decide ((0 : Int) < (e : Int)))) rfl) (bs hm (fun a hm => ?_) fun a hm => ?_)))
    ·refine Wp a rfl (fun _ => R.fa rfl) (Wq a rfl (fun _ c => R.ld (v := G) rfl rfl (M.clc rfl rfl c)) (Wp a rfl (fun _ => R.mv (v := vI e) rfl) ?_))
     obtain ⟨h, Q, hm⟩ := ob hm
     refine Wp a rfl (fun _ => R.ix (α := Str) d Q rfl rfl rfl) (Wq a rfl (fun _ c => R.ld rfl rfl (zah (d.at_ Q).1 rfl (d.at_ Q).str c)) (Wp a rfl (fun _ => R.fa rfl) (Wq a rfl (fun _ c => R.ld (v := G) rfl rfl (M.clc rfl rfl c)) (Wp a rfl (fun _ => R.mv (v := vI e) rfl) (Wp a rfl (fun _ => R.sub rfl rfl) ?_)))))
     obtain ⟨i, S, hm⟩ := ob hm
     exact Wp a rfl (fun _ => R.ix (α := Str) d S rfl rfl rfl) (Wq a rfl (fun _ c => R.ld rfl rfl (zah (d.at_ S).1 rfl (d.at_ S).str c)) (Wp a rfl (fun _ => R.sle rfl rfl) (Wp b rfl (fun _ => R.pk a rfl (v := vB (Op.bytesLess h i || h == i)) rfl) (Mw.p rfl rfl (fun _ => R.pk b rfl (v := vB (Op.bytesLess h i || h == i)) rfl) (Mw.nil ((ag) ⟨(Op.bytesLess h i || h == i), O, rfl, (A.j P).w, rfl, hm⟩))))))
    ·exact dps 12 a rfl (Wp b rfl (fun _ => R.pk a rfl (v := vB false) rfl) (Mw.p rfl rfl (fun _ => R.pk b rfl (v := vB false) rfl) (Mw.nil ((ag) ⟨false, O, rfl, (A.j P).w, rfl, hm⟩))))
 ·refine Cw.exit ?_
  rw [aj] at hm
  obtain ⟨ap, aq, hm⟩ := zaS hm
  refine Cw.join 36 61 [2] (fun l w => ∃ T U, CW.w U = w ∧ Le [] x U ∧ l = [vB T] ∧ ap T = some r) ?_ ?_
  ·rintro _ _ σ ⟨T, U, rfl, ar, rfl, hm⟩
   rw [aq] at hm
   have au := y.n ar
   exact .ret (rt hm au)
  ·refine rg (fl z rfl (ca hm (fun _ => p113) fun a9 av hm f => ?_))
   have aw := y.n f
   refine mb rfl (bs hm (fun B hm => ?_) fun B hm => ?_)
   ·refine wak 3 B (fl (z.up f) rfl (ca hm (fun _ => p113) fun ba ax hm k => ?_))
    have ay := aw.n k
    have aa := (z.up f).up k
    refine Pb B rfl (mb rfl (bs hm (fun C hm => ?_) fun C hm => ?_))
    ·refine wak 3 C (fl aa rfl (ca hm (fun _ => p113) fun bb V hm D => ?_))
     have az := ay.n D
     have W := aa.up D
     refine Pb C rfl (mb rfl (bs hm (fun E hm => ?_) fun E hm => ?_))
     ·refine wak 5 E (fl W rfl (fl W rfl (Lw.sne rfl (Pb E rfl (mb rfl (bs hm (fun F hm => ?_) fun F hm => ?_))))))
      ·exact wak 4 F (fl W rfl (Lw.ln x0.Yes (J.ul az) rfl (Lw.le rfl (Pb F rfl (Nb rfl ((ag) ⟨decide (((x0.Yes.length : Int) : Int) ≤ (5 : Int)), V, rfl, ((f.j k).j D).w, rfl, hm⟩))))))
      ·exact psk 4 F rfl (Pb F rfl (Nb rfl ((ag) ⟨false, V, rfl, ((f.j k).j D).w, rfl, hm⟩)))
     ·exact psk 5 E rfl (Pb E rfl (mb rfl (psk 4 rfl rfl (Pb rfl rfl (Nb rfl ((ag) ⟨false, V, rfl, ((f.j k).j D).w, rfl, hm⟩))))))
    ·exact psk 3 C rfl (Pb C rfl (mb rfl (psk 5 rfl rfl (Pb rfl rfl (mb rfl (psk 4 rfl rfl (Pb rfl rfl (Nb rfl ((ag) ⟨false, ax, rfl, (f.j k).w, rfl, hm⟩)))))))))
   ·exact psk 3 B rfl (Pb B rfl (mb rfl (psk 3 rfl rfl (Pb rfl rfl (mb rfl (psk 5 rfl rfl (Pb rfl rfl (mb rfl (psk 4 rfl rfl (Pb rfl rfl (Nb rfl ((ag) ⟨false, av, rfl, f, rfl, hm⟩))))))))))))
theorem p93 {x0 a r} (b : Rd W K [vS x0.Branch, vS x0.Into, vS x0.By, a] x0) (hm : Vm.zh8 x0 = some r) : Q1 93 [.agg [vS x0.Branch, vS x0.Into, vS x0.By, a].toArray] W [] fun W' v => v = vB r :=
 (c93 (b.view _) hm).ad (fk 0) fun _ _ e => e
theorem c139 {x0 V W x1 x2 r} (h0 : Rd W0 [0] [V, W] x0) (hm : Vm.zf5 x0 x1 x2 = some r) : Q0 139 [.agg [V, W].toArray, vI x1, vI x2] W0 fun Wf v => ∃ u0, v = u0 ∧ OwS Wf LL [] [u0] r := by
 unfold Vm.zf5 at hm
 obtain ⟨c2, c3, ar, X, Y⟩ := Repo.split h0
 simp only [List.cons.injEq, and_true, true_and] at ar
 obtain ⟨rfl, rfl⟩ := ar
 refine zaj.of Tryz.func139 rfl rfl rfl rfl (sr (bo 2 rfl fun g1 W1 l1 Z => ?_))
 have a2 := l1.o
 refine Nv (.slice none 0 0) rfl (sr (la Z (mi rfl (cr hm (fun _ => p121 (k0 := 3) (Repo.rd (K := [0]) x0.Commits x0.Heads (X.ul a2) (Y.ul a2))) ?_))))
 rintro z5 H W7 hm l7 ⟨_, rfl, bm⟩
 have a8 := a2.n l7
 refine Nv H rfl (sr (la (Z.up l7) (mi rfl (cr hm (fun _ => p121 (k0 := 4) (Repo.rd (K := [0]) x0.Commits x0.Heads (X.ul a8) (Y.ul a8))) ?_))))
 rintro bn av c7 hm af ⟨_, rfl, bp⟩
 have bq := a8.n af
 refine Nv av rfl (sr (Lw.t rfl (T.lit0 (α := Int) 5 []) ?_))
 rintro aw _ ⟨ax, rfl, I, br⟩
 have bu := bq.n I
 refine Nv aw rfl (ssr (Ni rfl (Cw.block ?_)))
 obtain ⟨bv, bw, hm⟩ := zaS hm
 refine Cw.loop 22 40 [9, 10] (fun m l w => ∃ h J e B, CW.w B = w ∧ Le [5] ax B ∧ l = [e, vI J] ∧ Ow B 5 [] [e] h ∧ Vm.zc8 z5 bn bv m h J = some r) _ ⟨([] : List Int), 0, aw, ax, rfl, Le.refl _ _, rfl, br, hm⟩ ?_
 rintro (_ | c8) _ _ σ ⟨h, J, e, B, rfl, C, rfl, ah, hm⟩
 ·cases hm
 unfold Vm.zc8 at hm
 have bz := bu.t C
 have D := ((bm.up af).up I).up C
 refine ssr (mi rfl (mv H rfl (Lw.ln z5 D.rd rfl (Lw.lt rfl (nl (cn hm (fun hm => ?_) fun hm => ?_))))))
 ·refine sk ?_
  obtain ⟨b0, b2, hm⟩ := zaS hm
  refine Cw.join 28 40 [9] (fun l w => ∃ L M E, CW.w E = w ∧ Le [5] B E ∧ l = [M] ∧ Ow E 5 [] [M] L ∧ b0 L = some r) ?_ ?_
  ·rintro _ _ σ ⟨L, M, E, rfl, b3, rfl, b4, hm⟩
   rw [b2] at hm
   exact rg (mi rfl (Lw.add rfl (Ni rfl ((agm) ⟨L, w64 (J + 1), M, E, rfl, (C.j b3).w, rfl, b4, hm⟩))))
  ·refine Cw.block (sr (mv av rfl (mv H rfl (mi rfl ?_))))
   obtain ⟨c9, ay, hm⟩ := ob hm
   refine Lw.r rfl (R.ix (α := Int) D.rd ay rfl rfl rfl) (Lw.r rfl (R.ld rfl rfl (D.rd.at_ ay).int) (ca hm (fun _ => p122 (K := [4]) ((bp.up I).up C).rd) fun da b5 hm y => nl (cn hm (fun hm => ?_) fun hm => ?_)))
   ·refine rg (mv e rfl (mv H rfl (mi rfl ?_)))
    obtain ⟨az, a0, hm⟩ := ob hm
    refine Lw.r rfl (R.ix (α := Int) (D.up y).rd a0 rfl rfl rfl) (Lw.r rfl (R.ld rfl rfl ((D.up y).rd.at_ a0).int) (Lw.t rfl (T.bs 6 [vI az] (cs := [vI az]) rfl rfl (bsv rfl)) ?_))
    rintro _ _ ⟨db, dc, rfl, rfl, a1, b6⟩
    obtain ⟨b7, b8, hm⟩ := ob hm
    refine Lw.t rfl (T.app1S (α := Int) (K' := []) ((ah.up y).up a1) b6 (rdI _) rfl rfl b8) ?_
    rintro a3 _ ⟨b9, rfl, cb, cc⟩
    exact Nv a3 rfl ((ag) ⟨b7, a3, b9, rfl, ((y.j a1).j cb).w, rfl, cc, hm⟩)
   ·exact sk ((ag) ⟨h, e, b5, rfl, y.w, rfl, (ah.up y), hm⟩)
 ·refine Cw.exit ?_
  rw [bw] at hm
  refine sr (Lw.t rfl (T.lit0 (α := Int) 7 []) ?_)
  rintro a4 _ ⟨a5, rfl, ai, cd⟩
  have ce := bz.n ai
  refine Nv a4 rfl (ssr (Ni rfl (Cw.block ?_)))
  obtain ⟨cf, cg, hm⟩ := zaS hm
  refine Cw.loop 42 81 [11, 12, 13, 14] (fun m l w => ∃ N i k a6 a7 x, CW.w x = w ∧ Le [7] a5 x ∧ l = [k, vI i, a6, a7] ∧ Ow x 7 [] [k] N ∧ Vm.zbk x0 h cf m N i = some r) _ ⟨([] : List Int), 0, a4, undef, undef, a5, rfl, Le.refl _ _, rfl, cd, hm⟩ ?_
  rintro (_ | dd) _ _ σ ⟨N, i, k, a6, a7, x, rfl, O, rfl, aj, hm⟩
  ·cases hm
  unfold Vm.zbk at hm
  have a9 := ce.t O
  have ba := (ah.up ai).up O
  refine ssr (mi rfl (mv e rfl (Lw.ln h ba.rd rfl (Lw.lt rfl (nl (cn hm (fun hm => ?_) fun hm => ?_))))))
  ·refine sk ?_
   obtain ⟨ch, ci, hm⟩ := zaS hm
   refine Cw.join 48 81 [11, 13, 14] (fun l w => ∃ P Q ak am F, CW.w F = w ∧ Le [7] x F ∧ l = [Q, ak, am] ∧ Ow F 7 [] [Q] P ∧ ch P = some r) ?_ ?_
   ·rintro _ _ σ ⟨P, Q, ak, am, F, rfl, cj, rfl, ck, hm⟩
    rw [ci] at hm
    exact rg (mi rfl (Lw.add rfl (Ni rfl ((agm) ⟨P, w64 (i + 1), Q, ak, am, F, rfl, (O.j cj).w, rfl, ck, hm⟩))))
   ·refine Cw.block (sr (Nb rfl (ssr (Ni rfl (Cw.block ?_)))))
    obtain ⟨cl, cm, hm⟩ := zaS hm
    refine Cw.loop 48 73 [13, 14] (fun m l w => ∃ G d S, CW.w S = w ∧ Le [] x S ∧ l = [vB G, vI d] ∧ Vm.zcc x0 h i cl m G d = some r) _ ⟨true, 0, x, rfl, Le.refl _ _, rfl, hm⟩ ?_
    rintro (_ | de) _ _ σ ⟨G, d, S, rfl, f, rfl, hm⟩
    ·cases hm
    unfold Vm.zcc at hm
    have co := a9.n f
    have U := ba.up f
    refine ssr (mi rfl (mv e rfl (Lw.ln h U.rd rfl (Lw.lt rfl (nl (cn hm (fun hm => ?_) fun hm => ?_))))))
    ·refine sk (Cw.seq (Cw.block (Cw.draw [] [(0, 0), (1, 0), (2, 0), (3, 0), (4, 0), (5, 0), (6, 1), (7, 0), (8, 0), (9, 0), (10, 1), (12, 0), (13, 0), (14, 0), (15, 1), (11, 2), (16, 3), (17, 0), (18, 0), (19, 0), (20, 0)] mixed (by kernel_rfl) fun bb z => ?_)))
     have bc := co.n z
     have A := U.up z
     refine Db rfl (Db rfl (bs hm (fun b hm => ?_) fun b hm => ?_))
     ·refine Wp b rfl (fun _ => R.mv (v := vI d) rfl) (Wp b rfl (fun _ => R.mv (v := vI i) rfl) (Wp b rfl (fun _ => R.eq rfl rfl) (Wp b rfl (fun _ => R.mv (v := vB ((d : Int) == (i : Int))) rfl) (bs hm (fun a hm => ?_) fun a hm => ?_))))
      ·exact dps 12 a rfl (Wp b rfl (fun _ => R.pk a rfl (v := vB true) rfl) (Mw.p rfl rfl (fun _ => R.pk b rfl (v := vB true) rfl) (Hb rfl (Mw.nil (rg (mi rfl (Lw.add rfl (Ni rfl ((agm) ⟨true, w64 (d + 1), bb, rfl, (f.j z).w, rfl, hm⟩)))))))))
      ·refine Wq a rfl (fun _ c => R.lda (cs := [V, W]) (((((((((Z.up l7).up af).up I).up C).up ai).up O).up f).up z).clcs rfl c) rfl rfl) (Wp a rfl (fun _ => R.mv (v := e) rfl) (Wp a rfl (fun _ => R.mv (v := vI d) rfl) ?_))
       obtain ⟨df, an, hm⟩ := ob hm
       refine Wp a rfl (fun _ => R.ix (α := Int) A.rd an rfl rfl rfl) (Wq a rfl (fun _ c => R.ld rfl rfl (zah (A.rd.at_ an).1 rfl (A.rd.at_ an).int c)) (Wp a rfl (fun _ => R.mv (v := e) rfl) (Wp a rfl (fun _ => R.mv (v := vI i) rfl) ?_)))
       obtain ⟨dg, ao, hm⟩ := ob hm
       refine Wp a rfl (fun _ => R.ix (α := Int) A.rd ao rfl rfl rfl) (Wq a rfl (fun _ c => R.ld rfl rfl (zah (A.rd.at_ ao).1 rfl (A.rd.at_ ao).int c)) ?_)
       obtain ⟨dh, cp, hm⟩ := ob hm
       refine Wt a rfl (T.call rfl (p121 (k0 := 8) (Repo.rd (K := [0]) x0.Commits x0.Heads (X.ul bc) (Y.ul bc)) cp)) ?_
       rintro di _ ⟨dj, rfl, be, ⟨_, rfl, cq⟩⟩
       refine m0 be fun dk => ?_
       obtain ⟨ap, ct, hm⟩ := ob hm
       refine Mw.gl a rfl rfl rfl rfl rfl (T.call rfl (p122 (K := [8])  cq.rd ct)) ?_
       rintro _ _ ⟨cu, rfl, cv, rfl⟩
       exact Wp a rfl (fun _ => R.not rfl) (Wp b rfl (fun _ => R.pk a rfl (v := vB (!ap)) rfl) (Mw.p rfl rfl (fun _ => R.pk b rfl (v := vB (!ap)) rfl) (Hb rfl (Mw.nil (rg (mi rfl (Lw.add rfl (Ni rfl ((agm) ⟨(!ap), w64 (d + 1), cu, rfl, (((f.j z).j be).j cv).w, rfl, hm⟩)))))))))
     ·exact dps 4 b rfl (dpu 12 rfl (dps 1 b rfl (Mw.p rfl rfl (fun _ => R.pk b rfl (v := vB false) rfl) (Hb rfl (Mw.nil (rg (mi rfl (Lw.add rfl (Ni rfl ((agm) ⟨false, w64 (d + 1), bb, rfl, (f.j z).w, rfl, hm⟩))))))))))
    ·refine Cw.exit ?_
     rw [cm] at hm
     refine sr (mb rfl (nl (cn hm (fun hm => ?_) fun hm => ?_)))
     ·refine rg (mv k rfl (mv e rfl (mi rfl ?_)))
      obtain ⟨bg, bh, hm⟩ := ob hm
      refine Lw.r rfl (R.ix (α := Int) U.rd bh rfl rfl rfl) (Lw.r rfl (R.ld rfl rfl (U.rd.at_ bh).int) (Lw.t rfl (T.bs 9 [vI bg] (cs := [vI bg]) rfl rfl (bsv rfl)) ?_))
      rintro _ _ ⟨dl, dm, rfl, rfl, bi, cw⟩
      obtain ⟨cx, cy, hm⟩ := ob hm
      refine Lw.t rfl (T.app1S (α := Int) (K' := []) ((aj.up f).up bi) cw (rdI _) rfl rfl cy) ?_
      rintro bj _ ⟨cz, rfl, c0, c1⟩
      exact Nv bj rfl ((ag) ⟨cx, bj, vB G, vI d, cz, rfl, ((f.j bi).j c0).w, rfl, c1, hm⟩)
     ·exact sk ((ag) ⟨N, k, vB G, vI d, S, rfl, f.w, rfl, (aj.up f), hm⟩)
  ·refine Cw.exit ?_
   rw [cg] at hm
   refine sr (mv k rfl (Nv k rfl ?_))
   cases hm
   exact Cw.ret (zhB rfl (Res.mk a9 ⟨k, rfl, aj.s.sub rfl rfl⟩))
theorem p139 {x0 b d x1 x2 k0 r} (f : Rd W K [b, d] x0) (hm : Vm.zf5 x0 x1 x2 = some r) : Q1 139 [.agg [b, d].toArray, vI x1, vI x2] W [] fun W' v => ∃ a, v = a ∧ Ow W' k0 [] [a] r :=
 (c139 (f.view _) hm).ad (fk k0) fun _ _ ⟨a, e, h⟩ => ⟨a, e, h.back (zfR _)⟩
theorem c82 {x0 k x x1 x2 r} (I : Rd W0 [0] [k, x] x0) (hm : Vm.zhc x0 x1 x2 = some r) : Q0 82 [.agg [k, x].toArray, vI x1, vI x2] W0 fun Wf v => ∃ y, v = y ∧ Rd Wf [0] [y] r := by
 unfold Vm.zhc at hm
 obtain ⟨M, N, z, A, J⟩ := Repo.split I
 simp only [List.cons.injEq, and_true, true_and] at z
 obtain ⟨rfl, rfl⟩ := z
 refine zaj.of Tryz.func82 rfl rfl rfl rfl (sr (bo 2 rfl fun O P L B => ?_))
 have d := L.o
 refine Nv (.slice none 0 0) rfl (sr (la B (mi rfl (mi rfl (cr hm (fun _ => p139 (k0 := 3) (Repo.rd (K := [0]) x0.Commits x0.Heads (A.ul d) (J.ul d))) ?_)))))
 rintro C a Q hm D ⟨_, rfl, E⟩
 have F := d.n D
 refine Nv a rfl (ssr (mv a rfl (Lw.ln C E.rd rfl (Lw.eq rfl (nl (cn hm (fun hm => ?_) fun hm => ?_))))))
 ·refine sr (Nv (.slice none 0 0) rfl ?_)
  cases hm
  exact Cw.ret (zhB rfl (Res.mk F ⟨.slice none 0 0, rfl, (rdN (K := [0]))⟩))
 ·refine sk (Cw.seq (Cw.draw [] [(0, 0), (1, 1), (2, 0), (3, 0), (4, 0), (5, 0), (6, 0), (7, 1), (8, 0), (9, 0), (10, 1), (11, 0)] mixed (by kernel_rfl) fun S e => ?_))
  have G := F.n e
  have b := E.up e
  refine Dfl ((B.up D).up e) rfl rfl rfl (Dv a rfl (Dv a rfl (Mw.p rfl rfl (fun _ => zs4 (xs := C) b.rd rfl) (Mw.p rfl rfl (fun _ => R.sub rfl rfl) ?_))))
  obtain ⟨T, f, hm⟩ := ob hm
  refine Mw.p rfl rfl (fun _ => R.ix (α := Int) b.rd f rfl rfl rfl) (Mw.q rfl rfl (fun _ c => R.ld rfl rfl (zah (b.rd.at_ f).1 rfl (b.rd.at_ f).int c)) ?_)
  obtain ⟨U, h, hm⟩ := ob hm
  have i := A.ul G
  refine Mw.p rfl rfl (fun _ => R.ix (α := Commit) i h rfl rfl rfl) (Df rfl ?_)
  obtain ⟨H, c21, r22⟩ := (Commit.at2 (i.at_ h)).cell rfl
  refine Mw.q rfl rfl (fun _ c => R.ld rfl rfl (zah (Commit.at2 (i.at_ h)).1 rfl c21 c)) (Hv H rfl (Mw.nil ?_))
  cases hm
  exact Cw.ret (zhB rfl (Res.mk G ⟨H, rfl, r22⟩))
theorem p82 {x0 b d x1 x2 r} (f : Rd W K [b, d] x0) (hm : Vm.zhc x0 x1 x2 = some r) : Q1 82 [.agg [b, d].toArray, vI x1, vI x2] W [] fun W' v => ∃ a, v = a ∧ Rd W' (0 :: K) [a] r :=
 (c82 (f.view _) hm).ad (fk 0) fun _ _ ⟨a, e, h⟩ => ⟨a, e, h.back rfl⟩
theorem c204 {x0 f x1 e r} (h0 : Rd W0 [0] [f] x0) (Y : Rd W0 [0] [e] x1) (hm : Vm.zjt x0 x1 = some r) : Q0 204 [f, e] W0 fun Wf v => ∃ u0, v = u0 ∧ OwS Wf LL [] [u0] r := by
 unfold Vm.zjt at hm
 refine zaj.of Tryz.func204 rfl rfl rfl rfl (sr (Nv (.slice none 0 0) rfl (sr (Lw.t rfl (T.lit0 (α := Hunk) 2 []) ?_))))
 rintro v1 _ ⟨W1, rfl, l1, o1⟩
 have a2 := l1.o
 refine Nv v1 rfl (sr (mv f rfl (mv e rfl (cr hm (fun _ => p224 (k0 := 3) (h0.ul a2) (Y.ul a2)) ?_))))
 rintro z5 e9 W7 hm l7 ⟨_, rfl, cl⟩
 have a8 := a2.n l7
 refine mv e rfl (Lw.ln x1 (Y.ul a8) rfl (Lw.t rfl (T.bs 4 [vI (x1.length : Int)] (cs := [vI (x1.length : Int)]) rfl rfl (bsv rfl)) ?_))
 rintro _ _ ⟨fc, fd, rfl, rfl, ao, cm⟩
 have co := a8.n ao
 obtain ⟨bm, cp, hm⟩ := ob hm
 refine Lw.t rfl (T.app1S (α := Int) (K' := []) (cl.up ao) cm (rdI _) rfl rfl cp) ?_
 rintro k _ ⟨bn, rfl, bp, cq⟩
 have ct := co.t bp
 refine Nv k rfl (sr (Ni rfl (sr (Ni rfl (ssr (Ni rfl (Cw.block ?_)))))))
 obtain ⟨cu, cv, hm⟩ := zaS hm
 refine Cw.loop 18 66 [5, 7, 8, 9] (fun m l w => ∃ C a d b i B, CW.w B = w ∧ Le [2, 5, 6] bn B ∧ l = [i, vI a, vI d, vI b] ∧ Ow B 2 [] [i] C ∧ Vm.ze4 x0 x1 bm cu m C a d b = some r) _ ⟨([] : List Hunk), 0, 0, 0, v1, bn, rfl, Le.refl _ _, rfl, (((o1.up l7).up ao).up bp), hm⟩ ?_
 rintro (_ | fe) _ _ σ ⟨C, a, d, b, i, B, rfl, ap, rfl, Z, hm⟩
 ·cases hm
 unfold Vm.ze4 at hm
 have bq := ct.t ap
 have D := cq.up ap
 refine ssr (mi rfl (mv k rfl (Lw.ln bm D.rd rfl (Lw.lt rfl (nl (cn hm (fun hm => ?_) fun hm => ?_))))))
 ·refine sk ?_
  obtain ⟨cw, cx, hm⟩ := zaS hm
  refine Cw.join 24 66 [5, 7, 8] (fun l w => ∃ aa ac ae af O, CW.w O = w ∧ Le [2, 5, 6] B O ∧ l = [af, vI ac, vI ae] ∧ Ow O 2 [] [af] aa ∧ cw aa ac ae = some r) ?_ ?_
  ·rintro _ _ σ ⟨aa, ac, ae, af, O, rfl, cy, rfl, cz, hm⟩
   rw [cx] at hm
   exact rg (mi rfl (Lw.add rfl (Ni rfl ((agm) ⟨aa, ac, ae, w64 (b + 1), af, O, rfl, (ap.j cy).w, rfl, cz, hm⟩))))
  ·refine Cw.block (ssr (mv k rfl (mi rfl ?_)))
   obtain ⟨ff, br, hm⟩ := ob hm
   refine Lw.r rfl (R.ix (α := Int) D.rd br rfl rfl rfl) (Lw.r rfl (R.ld rfl rfl (D.rd.at_ br).int) (Lw.lt rfl (nl (cn hm (fun hm => ?_) fun hm => ?_))))
   ·exact Cw.exit ((ag) ⟨C, a, d, i, B, rfl, Le.refl _ _, rfl, Z, hm⟩)
   ·refine sk ?_
    obtain ⟨c0, c1, hm⟩ := zaS hm
    refine Cw.join 29 59 [5] (fun l w => ∃ ah ai P, CW.w P = w ∧ Le [2, 5, 6] B P ∧ l = [ai] ∧ Ow P 2 [] [ai] ah ∧ c0 ah = some r) ?_ ?_
    ·rintro _ _ σ ⟨ah, ai, P, rfl, aq, rfl, c2, hm⟩
     rw [c1] at hm
     refine sr (mi rfl (Lw.add rfl (Ni rfl (rg (mv k rfl (mi rfl ?_))))))
     obtain ⟨c3, bu, hm⟩ := ob hm
     exact Lw.r rfl (R.ix (α := Int) (D.up aq).rd bu rfl rfl rfl) (Lw.r rfl (R.ld rfl rfl ((D.up aq).rd.at_ bu).int) (Lw.add rfl (Ni rfl ((ag) ⟨ah, w64 (b + 1), w64 (c3 + 1), ai, P, rfl, aq, rfl, c2, hm⟩))))
    ·obtain ⟨c4, c5, hm⟩ := zaS hm
     refine Cw.join 29 39 [39] (fun l w => ∃ ar aj, CW.w aj = w ∧ Le [] B aj ∧ l = [vB ar] ∧ c4 ar = some r) ?_ ?_
     ·rintro _ _ σ ⟨ar, aj, rfl, M, rfl, hm⟩
      rw [c5] at hm
      have c6 := bq.n M
      refine cn hm (fun hm => ?_) fun hm => ?_
      ·obtain ⟨Q, bv, hm⟩ := ob hm
       obtain ⟨F, c7, hm⟩ := ob hm
       obtain ⟨y, bw, hm⟩ := ob hm
       obtain ⟨S, bz, hm⟩ := ob hm
       obtain ⟨G, c8, hm⟩ := ob hm
       obtain ⟨N, c9, hm⟩ := ob hm
       refine Cw.par [[], [], [], [], [], [], [3, 4, 5], [2, 3, 4, 5, 6], [], [], [], [], [], [11, 12], [11, 12, 13], [9, 10, 11, 12, 13, 14], [2, 3, 4, 5, 6, 7, 8, 9, 10, 11, 12, 13, 14, 15], [1, 2, 3, 4, 5, 6, 7, 8, 9, 10, 11, 12, 13, 14, 15, 16], [1, 2, 3, 4, 5, 6, 7, 8, 9, 10, 11, 12, 13, 14, 15, 16, 17], [0, 1, 2, 3, 4, 5, 6, 7, 8, 9, 10, 11, 12, 13, 14, 15, 16, 17, 18], [0, 1, 2, 3, 4, 5, 6, 7, 8, 9, 10, 11, 12, 13, 14, 15, 16, 17, 18, 19]] [[21], [], [], [], [], [], [3, 4, 5], [2, 6], [], [], [], [], [], [11, 12], [13], [9, 10, 14], [8, 15], [1, 7, 16], [7, 16, 17], [0, 7, 16, 18, 21], [19]] [[], [], [], [], [], [], [], [5], [], [], [], [], [], [], [], [], [6], [], [], [2, 5, 6], []] [[0], [1], [2], [3], [4], [5], [6], [7], [8], [9], [10], [11], [12], [13], [14], [15], [16], [7, 16, 17], [7, 16, 18], [19], [19, 20], []] [[], [], [5], [], [], [], [0], [5], [6], [], [], [], [], [], [], [0], [6], [], [7], [2], [], [2]] [0, 1, 3, 4, 5, 6, 9, 10, 11, 12, 13, 14, 15, 17, 18, 19, 20] [2, 5, 6] [fun vs W => (vs 0) = i, fun vs W => (vs 1) = vI a, fun vs W => Ow W 5 [] [(vs 2)] ([] : List Str), fun vs W => (vs 3) = f, fun vs W => (vs 4) = vI a, fun vs W => (vs 5) = vI b, fun vs W => (vs 6) = (cutV f (a : Int).toNat (b : Int).toNat (Rp.sz (Str))) ∧ Rd W [0] [(cutV f (a : Int).toNat (b : Int).toNat (Rp.sz (Str)))] Q, fun vs W => Ow W 5 [] [(vs 7)] F, fun vs W => Ow W 6 [] [(vs 8)] ([] : List Str), fun vs W => (vs 9) = e, fun vs W => (vs 10) = vI d, fun vs W => (vs 11) = k, fun vs W => (vs 12) = vI b, fun vs W => (vs 13) = ptr ((slA k).add ((b).toNat * Rp.sz (Int))), fun vs W => (vs 14) = vI y, fun vs W => (vs 15) = (cutV e (d : Int).toNat (y : Int).toNat (Rp.sz (Str))) ∧ Rd W [0] [(cutV e (d : Int).toNat (y : Int).toNat (Rp.sz (Str)))] S, fun vs W => Ow W 6 [] [(vs 16)] G, fun vs W => (vs 17) = .agg [vI a, (vs 7), (vs 16)].toArray, fun vs W => (vs 18) = .slice (some (bx (pg (vs 18)))) 1 1 ∧ Bx W 7 (pg (vs 18)) [vI a, (vs 7), (vs 16)], fun vs W => Ow W 2 [] [(vs 19)] N, fun vs W => (vs 20) = (vs 19)] [fun _ W => Ow W 2 [] [i] C] mixed (by kernel_rfl) rfl (zq4.cons (fun _ _ l => (Z.up M).up l rfl) zq4.nil) ?_
       intro fg au
       have b0 := c6.n au
       have b1 := (D.up M).up au
       refine ⟨(zaN.cons ?_ (zaN.cons ?_ (zaN.cons ?_ (zaN.cons ?_ (zaN.cons ?_ (zaN.cons ?_ (zaN.cons ?_ (zaN.cons ?_ (zaN.cons ?_ (zaN.cons ?_ (zaN.cons ?_ (zaN.cons ?_ (zaN.cons ?_ (zaN.cons ?_ (zaN.cons ?_ (zaN.cons ?_ (zaN.cons ?_ (zaN.cons ?_ (zaN.cons ?_ (zaN.cons ?_ (zaN.cons ?_ zaN.nil))))))))))))))))))))), (zdd.cons (fun vs vs' W W' _ hv l hd h => by (show (vs' 0) = i); rw [hv 0 (zat rfl)]; exact h) (zdd.cons (fun vs vs' W W' _ hv l hd h => by (show (vs' 1) = vI a); rw [hv 1 (zat rfl)]; exact h) (zdd.cons (fun vs vs' W W' _ hv l hd h => by (show Ow W' 5 [] [(vs' 2)] ([] : List Str)); rw [hv 2 (zat rfl)]; exact h.upv l (zbJ hd (c := 5) rfl)) (zdd.cons (fun vs vs' W W' _ hv l hd h => by (show (vs' 3) = f); rw [hv 3 (zat rfl)]; exact h) (zdd.cons (fun vs vs' W W' _ hv l hd h => by (show (vs' 4) = vI a); rw [hv 4 (zat rfl)]; exact h) (zdd.cons (fun vs vs' W W' _ hv l hd h => by (show (vs' 5) = vI b); rw [hv 5 (zat rfl)]; exact h) (zdd.cons (fun vs vs' W W' _ hv l hd h => by (show (vs' 6) = (cutV f (a : Int).toNat (b : Int).toNat (Rp.sz (Str))) ∧ Rd W' [0] [(cutV f (a : Int).toNat (b : Int).toNat (Rp.sz (Str)))] Q); rw [hv 6 (zat rfl)]; exact ⟨h.1, h.2.up l (zkz hd (K := [0]) rfl)⟩) (zdd.cons (fun vs vs' W W' _ hv l hd h => by (show Ow W' 5 [] [(vs' 7)] F); rw [hv 7 (zat rfl)]; exact h.upv l (zbJ hd (c := 5) rfl)) (zdd.cons (fun vs vs' W W' _ hv l hd h => by (show Ow W' 6 [] [(vs' 8)] ([] : List Str)); rw [hv 8 (zat rfl)]; exact h.upv l (zbJ hd (c := 6) rfl)) (zdd.cons (fun vs vs' W W' _ hv l hd h => by (show (vs' 9) = e); rw [hv 9 (zat rfl)]; exact h) (zdd.cons (fun vs vs' W W' _ hv l hd h => by (show (vs' 10) = vI d); rw [hv 10 (zat rfl)]; exact h) (zdd.cons (fun vs vs' W W' _ hv l hd h => by (show (vs' 11) = k); rw [hv 11 (zat rfl)]; exact h) (zdd.cons (fun vs vs' W W' _ hv l hd h => by (show (vs' 12) = vI b); rw [hv 12 (zat rfl)]; exact h) (zdd.cons (fun vs vs' W W' _ hv l hd h => by (show (vs' 13) = ptr ((slA k).add ((b).toNat * Rp.sz (Int)))); rw [hv 13 (zat rfl)]; exact h) (zdd.cons (fun vs vs' W W' _ hv l hd h => by (show (vs' 14) = vI y); rw [hv 14 (zat rfl)]; exact h) (zdd.cons (fun vs vs' W W' _ hv l hd h => by (show (vs' 15) = (cutV e (d : Int).toNat (y : Int).toNat (Rp.sz (Str))) ∧ Rd W' [0] [(cutV e (d : Int).toNat (y : Int).toNat (Rp.sz (Str)))] S); rw [hv 15 (zat rfl)]; exact ⟨h.1, h.2.up l (zkz hd (K := [0]) rfl)⟩) (zdd.cons (fun vs vs' W W' _ hv l hd h => by (show Ow W' 6 [] [(vs' 16)] G); rw [hv 16 (zat rfl)]; exact h.upv l (zbJ hd (c := 6) rfl)) (zdd.cons (fun vs vs' W W' _ hv l hd h => by (show (vs' 17) = .agg [vI a, (vs' 7), (vs' 16)].toArray); rw [hv 7 (zat rfl), hv 16 (zat rfl), hv 17 (zat rfl)]; exact h) (zdd.cons (fun vs vs' W W' _ hv l hd h => by (show (vs' 18) = .slice (some (bx (pg (vs' 18)))) 1 1 ∧ Bx W' 7 (pg (vs' 18)) [vI a, (vs' 7), (vs' 16)]); rw [hv 7 (zat rfl), hv 16 (zat rfl), hv 18 (zat rfl)]; exact ⟨h.1, h.2.up l (zbJ hd (c := 7) rfl)⟩) (zdd.cons (fun vs vs' W W' _ hv l hd h => by (show Ow W' 2 [] [(vs' 19)] N); rw [hv 19 (zat rfl)]; exact h.upv l (zbJ hd (c := 2) rfl)) (zdd.cons (fun vs vs' W W' _ hv l hd h => by (show (vs' 20) = (vs' 19)); rw [hv 19 (zat rfl), hv 20 (zat rfl)]; exact h) (zdd.cons (fun _ _ _ _ _ _ l hd h => h.upv l (zbJ hd (c := 2) rfl)) zdd.nil)))))))))))))))))))))), ?_⟩
       ·intro vs W lW hN hV
        obtain ⟨b2, da⟩ : ∃ X, X = W := ⟨W, rfl⟩
        subst da
        have fh : Ow b2 2 [] [i] C := hN 21 (zat rfl)
        have av : vs 20 = i := hV 20 (zat rfl)
        obtain ⟨vs, rfl⟩ := zao av
        refine Tr.mono (Run.tr (R.mv (v := i) rfl)) ?_
        rintro _ _ ⟨hu, rfl⟩
        obtain rfl := hu.symm
        exact ⟨b2, rfl, Le.refl _ _, (show (i : Value) = i from rfl)⟩
       ·intro vs W lW hN hV
        obtain ⟨db, dc⟩ : ∃ X, X = W := ⟨W, rfl⟩
        subst dc
        refine Tr.mono (Run.tr (R.mv (v := vI a) rfl)) ?_
        rintro _ _ ⟨hu, rfl⟩
        obtain rfl := hu.symm
        exact ⟨db, rfl, Le.refl _ _, (show (vI a : Value) = vI a from rfl)⟩
       ·intro vs W lW hN hV
        obtain ⟨fi, dd⟩ : ∃ X, X = W := ⟨W, rfl⟩
        subst dd
        refine Tr.mono (T.lit0 (α := Str) 5 []) ?_
        rintro de _ ⟨b3, rfl, df, dg⟩
        exact ⟨b3, rfl, df, (show Ow b3 5 [] [de] ([] : List Str) from dg)⟩
       ·intro vs W lW hN hV
        obtain ⟨dh, di⟩ : ∃ X, X = W := ⟨W, rfl⟩
        subst di
        refine Tr.mono (Run.tr (R.mv (v := f) rfl)) ?_
        rintro _ _ ⟨hu, rfl⟩
        obtain rfl := hu.symm
        exact ⟨dh, rfl, Le.refl _ _, (show (f : Value) = f from rfl)⟩
       ·intro vs W lW hN hV
        obtain ⟨dj, dk⟩ : ∃ X, X = W := ⟨W, rfl⟩
        subst dk
        refine Tr.mono (Run.tr (R.mv (v := vI a) rfl)) ?_
        rintro _ _ ⟨hu, rfl⟩
        obtain rfl := hu.symm
        exact ⟨dj, rfl, Le.refl _ _, (show (vI a : Value) = vI a from rfl)⟩
       ·intro vs W lW hN hV
        obtain ⟨dl, dm⟩ : ∃ X, X = W := ⟨W, rfl⟩
        subst dm
        refine Tr.mono (Run.tr (R.mv (v := vI b) rfl)) ?_
        rintro _ _ ⟨hu, rfl⟩
        obtain rfl := hu.symm
        exact ⟨dl, rfl, Le.refl _ _, (show (vI b : Value) = vI b from rfl)⟩
       ·intro vs W lW hN hV
        obtain ⟨b4, dn⟩ : ∃ X, X = W := ⟨W, rfl⟩
        subst dn
        have b5 := b0.t lW rfl
        have aw : vs 3 = f := (hN 3 (zat rfl))
        obtain ⟨vs, rfl⟩ := zao aw
        have ax : vs 4 = vI a := (hN 4 (zat rfl))
        obtain ⟨vs, rfl⟩ := zao ax
        have ay : vs 5 = vI b := (hN 5 (zat rfl))
        obtain ⟨vs, rfl⟩ := zao ay
        have r162 := (h0.ul b5).cutV bv
        refine Tr.mono (Run.tr (R.sl (h0.ul b5) bv rfl (.inr rfl) (.inr rfl))) ?_
        rintro _ _ ⟨hu, rfl⟩
        obtain rfl := hu.symm
        exact ⟨b4, rfl, Le.refl _ _, (show ((cutV f (a : Int).toNat (b : Int).toNat (Rp.sz (Str))) : Value) = (cutV f (a : Int).toNat (b : Int).toNat (Rp.sz (Str))) ∧ Rd b4 [0] [(cutV f (a : Int).toNat (b : Int).toNat (Rp.sz (Str)))] Q from ⟨rfl, r162⟩)⟩
       ·intro vs W lW hN hV
        obtain ⟨b6, dp⟩ : ∃ X, X = W := ⟨W, rfl⟩
        subst dp
        obtain ⟨dq, dr⟩ : ∃ v, vs 2 = v := ⟨_, rfl⟩
        obtain ⟨vs, rfl⟩ := zao dr
        have ds : Ow b6 5 [] [dq] ([] : List Str) := (hN 2 (zat rfl))
        have az : vs 6 = (cutV f (a : Int).toNat (b : Int).toNat (Rp.sz (Str))) := (hN 6 (zat rfl)).1
        obtain ⟨vs, rfl⟩ := zao az
        have dt : Rd b6 [0] [(cutV f (a : Int).toNat (b : Int).toNat (Rp.sz (Str)))] Q := (hN 6 (zat rfl)).2
        refine Tr.mono (T.appP (α := Str) ds dt rfl rfl c7) ?_
        rintro du _ ⟨b7, rfl, dv, dw⟩
        exact ⟨b7, rfl, dv, (show Ow b7 5 [] [du] F from dw)⟩
       ·intro vs W lW hN hV
        obtain ⟨fj, dx⟩ : ∃ X, X = W := ⟨W, rfl⟩
        subst dx
        refine Tr.mono (T.lit0 (α := Str) 6 []) ?_
        rintro dy _ ⟨b8, rfl, dz, d0⟩
        exact ⟨b8, rfl, dz, (show Ow b8 6 [] [dy] ([] : List Str) from d0)⟩
       ·intro vs W lW hN hV
        obtain ⟨d1, d2⟩ : ∃ X, X = W := ⟨W, rfl⟩
        subst d2
        refine Tr.mono (Run.tr (R.mv (v := e) rfl)) ?_
        rintro _ _ ⟨hu, rfl⟩
        obtain rfl := hu.symm
        exact ⟨d1, rfl, Le.refl _ _, (show (e : Value) = e from rfl)⟩
       ·intro vs W lW hN hV
        obtain ⟨d3, d4⟩ : ∃ X, X = W := ⟨W, rfl⟩
        subst d4
        refine Tr.mono (Run.tr (R.mv (v := vI d) rfl)) ?_
        rintro _ _ ⟨hu, rfl⟩
        obtain rfl := hu.symm
        exact ⟨d3, rfl, Le.refl _ _, (show (vI d : Value) = vI d from rfl)⟩
       ·intro vs W lW hN hV
        obtain ⟨d5, d6⟩ : ∃ X, X = W := ⟨W, rfl⟩
        subst d6
        refine Tr.mono (Run.tr (R.mv (v := k) rfl)) ?_
        rintro _ _ ⟨hu, rfl⟩
        obtain rfl := hu.symm
        exact ⟨d5, rfl, Le.refl _ _, (show (k : Value) = k from rfl)⟩
       ·intro vs W lW hN hV
        obtain ⟨d7, d8⟩ : ∃ X, X = W := ⟨W, rfl⟩
        subst d8
        refine Tr.mono (Run.tr (R.mv (v := vI b) rfl)) ?_
        rintro _ _ ⟨hu, rfl⟩
        obtain rfl := hu.symm
        exact ⟨d7, rfl, Le.refl _ _, (show (vI b : Value) = vI b from rfl)⟩
       ·intro vs W lW hN hV
        obtain ⟨d9, ea⟩ : ∃ X, X = W := ⟨W, rfl⟩
        subst ea
        have a0 : vs 11 = k := (hN 11 (zat rfl))
        obtain ⟨vs, rfl⟩ := zao a0
        have a1 : vs 12 = vI b := (hN 12 (zat rfl))
        obtain ⟨vs, rfl⟩ := zao a1
        refine Tr.mono (Run.tr (R.ix (α := Int) (b1.up lW rfl).rd bw rfl rfl rfl)) ?_
        rintro _ _ ⟨hu, rfl⟩
        obtain rfl := hu.symm
        exact ⟨d9, rfl, Le.refl _ _, (show (ptr ((slA k).add ((b).toNat * Rp.sz (Int))) : Value) = ptr ((slA k).add ((b).toNat * Rp.sz (Int))) from rfl)⟩
       ·intro vs W lW hN hV
        obtain ⟨eb, ec⟩ : ∃ X, X = W := ⟨W, rfl⟩
        subst ec
        have a3 : vs 13 = ptr ((slA k).add ((b).toNat * Rp.sz (Int))) := (hN 13 (zat rfl))
        obtain ⟨vs, rfl⟩ := zao a3
        refine Tr.mono (Run.tr (R.ld rfl rfl ((b1.up lW rfl).rd.at_ bw).int)) ?_
        rintro _ _ ⟨hu, rfl⟩
        obtain rfl := hu.symm
        exact ⟨eb, rfl, Le.refl _ _, (show (vI y : Value) = vI y from rfl)⟩
       ·intro vs W lW hN hV
        obtain ⟨b9, ed⟩ : ∃ X, X = W := ⟨W, rfl⟩
        subst ed
        have cb := b0.t lW rfl
        have a4 : vs 9 = e := (hN 9 (zat rfl))
        obtain ⟨vs, rfl⟩ := zao a4
        have a5 : vs 10 = vI d := (hN 10 (zat rfl))
        obtain ⟨vs, rfl⟩ := zao a5
        have a6 : vs 14 = vI y := (hN 14 (zat rfl))
        obtain ⟨vs, rfl⟩ := zao a6
        have r211 := (Y.ul cb).cutV bz
        refine Tr.mono (Run.tr (R.sl (Y.ul cb) bz rfl (.inr rfl) (.inr rfl))) ?_
        rintro _ _ ⟨hu, rfl⟩
        obtain rfl := hu.symm
        exact ⟨b9, rfl, Le.refl _ _, (show ((cutV e (d : Int).toNat (y : Int).toNat (Rp.sz (Str))) : Value) = (cutV e (d : Int).toNat (y : Int).toNat (Rp.sz (Str))) ∧ Rd b9 [0] [(cutV e (d : Int).toNat (y : Int).toNat (Rp.sz (Str)))] S from ⟨rfl, r211⟩)⟩
       ·intro vs W lW hN hV
        obtain ⟨cc, ee⟩ : ∃ X, X = W := ⟨W, rfl⟩
        subst ee
        obtain ⟨ef, eg⟩ : ∃ v, vs 8 = v := ⟨_, rfl⟩
        obtain ⟨vs, rfl⟩ := zao eg
        have eh : Ow cc 6 [] [ef] ([] : List Str) := (hN 8 (zat rfl))
        have a7 : vs 15 = (cutV e (d : Int).toNat (y : Int).toNat (Rp.sz (Str))) := (hN 15 (zat rfl)).1
        obtain ⟨vs, rfl⟩ := zao a7
        have ei : Rd cc [0] [(cutV e (d : Int).toNat (y : Int).toNat (Rp.sz (Str)))] S := (hN 15 (zat rfl)).2
        refine Tr.mono (T.appP (α := Str) eh ei rfl rfl c8) ?_
        rintro ej _ ⟨cd, rfl, ek, el⟩
        exact ⟨cd, rfl, ek, (show Ow cd 6 [] [ej] G from el)⟩
       ·intro vs W lW hN hV
        obtain ⟨a9, em⟩ : ∃ X, X = W := ⟨W, rfl⟩
        subst em
        have ba : vs 1 = vI a := (hN 1 (zat rfl))
        obtain ⟨vs, rfl⟩ := zao ba
        obtain ⟨z, H⟩ : ∃ v, vs 7 = v := ⟨_, rfl⟩
        obtain ⟨vs, rfl⟩ := zao H
        have en : Ow a9 5 [] [z] F := (hN 7 (zat rfl))
        obtain ⟨A, I⟩ : ∃ v, vs 16 = v := ⟨_, rfl⟩
        obtain ⟨vs, rfl⟩ := zao I
        have eo : Ow a9 6 [] [A] G := (hN 16 (zat rfl))
        refine Tr.mono (Run.tr (R.bd (zs := [vI 0, .slice none 0 0, .slice none 0 0]) (cs := [vI a, z, A]) [(0, vI a), (1, z), (2, A)] rfl rfl rfl (zaD rfl rfl (zaD en.oc rfl (zaD eo.oc rfl zdN))))) ?_
        rintro _ _ ⟨hu, rfl⟩
        obtain rfl := hu.symm
        exact ⟨a9, rfl, Le.refl _ _, (show (.agg [vI a, z, A].toArray : Value) = .agg [vI a, z, A].toArray from rfl)⟩
       ·intro vs W lW hN hV
        obtain ⟨ce, ep⟩ : ∃ X, X = W := ⟨W, rfl⟩
        subst ep
        obtain ⟨z, H⟩ : ∃ v, vs 7 = v := ⟨_, rfl⟩
        obtain ⟨vs, rfl⟩ := zao H
        have fm : Ow ce 5 [] [z] F := (hN 7 (zat rfl))
        obtain ⟨A, I⟩ : ∃ v, vs 16 = v := ⟨_, rfl⟩
        obtain ⟨vs, rfl⟩ := zao I
        have fn : Ow ce 6 [] [A] G := (hN 16 (zat rfl))
        have bb : vs 17 = .agg [vI a, z, A].toArray := (hN 17 (zat rfl))
        obtain ⟨vs, rfl⟩ := zao bb
        refine Tr.mono (T.bs 7 [.agg [vI a, z, A].toArray] (cs := [vI a, z, A]) rfl rfl (bsA rfl)) ?_
        rintro _ _ ⟨bc, cf, rfl, rfl, er, es⟩
        exact ⟨cf, rfl, er, (show (.slice (some (bx bc)) 1 1 : Value) = .slice (some (bx bc)) 1 1 ∧ Bx cf 7 bc [vI a, z, A] from ⟨rfl, es⟩)⟩
       ·intro vs W lW hN hV
        obtain ⟨ak, et⟩ : ∃ X, X = W := ⟨W, rfl⟩
        subst et
        have be : vs 0 = i := (hN 0 (zat rfl))
        obtain ⟨vs, rfl⟩ := zao be
        obtain ⟨z, H⟩ : ∃ v, vs 7 = v := ⟨_, rfl⟩
        obtain ⟨vs, rfl⟩ := zao H
        have eu : Ow ak 5 [] [z] F := (hN 7 (zat rfl))
        obtain ⟨A, I⟩ : ∃ v, vs 16 = v := ⟨_, rfl⟩
        obtain ⟨vs, rfl⟩ := zao I
        have ew : Ow ak 6 [] [A] G := (hN 16 (zat rfl))
        obtain ⟨L, bg⟩ : ∃ L, vs 18 = .slice (some (bx L)) 1 1 := ⟨_, ((hN 18 (zat rfl))).1⟩
        obtain ⟨vs, rfl⟩ := zao bg
        have ex : Bx ak 7 L [vI a, z, A] := (hN 18 (zat rfl)).2
        have ey : Ow ak 2 [] [i] C := hN 21 (zat rfl)
        refine Tr.mono (T.app1 (α := Hunk) (J := [5, 6]) (K' := []) ey ex (Hunk.own a F G eu.s ew.s) rfl rfl c9) ?_
        rintro ez _ ⟨cg, rfl, e0, e1⟩
        exact ⟨cg, rfl, e0, (show Ow cg 2 [] [ez] N from e1)⟩
       ·intro vs W lW hN hV
        obtain ⟨ch, e2⟩ : ∃ X, X = W := ⟨W, rfl⟩
        subst e2
        obtain ⟨E, bh⟩ : ∃ v, vs 19 = v := ⟨_, rfl⟩
        obtain ⟨vs, rfl⟩ := zao bh
        have fo : Ow ch 2 [] [E] N := (hN 19 (zat rfl))
        refine Tr.mono (Run.tr (R.as (v := E) rfl)) ?_
        rintro _ _ ⟨hu, rfl⟩
        obtain rfl := hu.symm
        exact ⟨ch, rfl, Le.refl _ _, (show (E : Value) = E from rfl)⟩
       ·intro vs W lW hN
        obtain ⟨U, e3⟩ : ∃ X, X = W := ⟨W, rfl⟩
        subst e3
        obtain ⟨e4, hl258⟩ : ∃ x, x = lW := ⟨lW, rfl⟩
        have be : vs 0 = i := (hN 0 (zat rfl))
        obtain ⟨vs, rfl⟩ := zao be
        have ba : vs 1 = vI a := (hN 1 (zat rfl))
        obtain ⟨vs, rfl⟩ := zao ba
        have aw : vs 3 = f := (hN 3 (zat rfl))
        obtain ⟨vs, rfl⟩ := zao aw
        have ax : vs 4 = vI a := (hN 4 (zat rfl))
        obtain ⟨vs, rfl⟩ := zao ax
        have ay : vs 5 = vI b := (hN 5 (zat rfl))
        obtain ⟨vs, rfl⟩ := zao ay
        have az : vs 6 = (cutV f (a : Int).toNat (b : Int).toNat (Rp.sz (Str))) := (hN 6 (zat rfl)).1
        obtain ⟨vs, rfl⟩ := zao az
        have fp : Rd U [0] [(cutV f (a : Int).toNat (b : Int).toNat (Rp.sz (Str)))] Q := (hN 6 (zat rfl)).2
        have a4 : vs 9 = e := (hN 9 (zat rfl))
        obtain ⟨vs, rfl⟩ := zao a4
        have a5 : vs 10 = vI d := (hN 10 (zat rfl))
        obtain ⟨vs, rfl⟩ := zao a5
        have a0 : vs 11 = k := (hN 11 (zat rfl))
        obtain ⟨vs, rfl⟩ := zao a0
        have a1 : vs 12 = vI b := (hN 12 (zat rfl))
        obtain ⟨vs, rfl⟩ := zao a1
        have a3 : vs 13 = ptr ((slA k).add ((b).toNat * Rp.sz (Int))) := (hN 13 (zat rfl))
        obtain ⟨vs, rfl⟩ := zao a3
        have a6 : vs 14 = vI y := (hN 14 (zat rfl))
        obtain ⟨vs, rfl⟩ := zao a6
        have a7 : vs 15 = (cutV e (d : Int).toNat (y : Int).toNat (Rp.sz (Str))) := (hN 15 (zat rfl)).1
        obtain ⟨vs, rfl⟩ := zao a7
        have fq : Rd U [0] [(cutV e (d : Int).toNat (y : Int).toNat (Rp.sz (Str)))] S := (hN 15 (zat rfl)).2
        obtain ⟨z, H⟩ : ∃ v, vs 7 = v := ⟨_, rfl⟩
        obtain ⟨vs, rfl⟩ := zao H
        obtain ⟨A, I⟩ : ∃ v, vs 16 = v := ⟨_, rfl⟩
        obtain ⟨vs, rfl⟩ := zao I
        have bb : vs 17 = .agg [vI a, z, A].toArray := (hN 17 (zat rfl))
        obtain ⟨vs, rfl⟩ := zao bb
        obtain ⟨L, bg⟩ : ∃ L, vs 18 = .slice (some (bx L)) 1 1 := ⟨_, ((hN 18 (zat rfl))).1⟩
        obtain ⟨vs, rfl⟩ := zao bg
        have fr : Bx U 7 L [vI a, z, A] := (hN 18 (zat rfl)).2
        obtain ⟨E, bh⟩ : ∃ v, vs 19 = v := ⟨_, rfl⟩
        obtain ⟨vs, rfl⟩ := zao bh
        have e5 : Ow U 2 [] [E] N := (hN 19 (zat rfl))
        have av : vs 20 = E := (hN 20 (zat rfl))
        obtain ⟨vs, rfl⟩ := zao av
        exact (ag) ⟨N, E, U, rfl, ((M.j au).j e4).w, rfl, e5, hm⟩
      ·exact sk ((ag) ⟨C, i, aj, rfl, M.w, rfl, (Z.up M), hm⟩)
     ·refine rg (mi rfl (mi rfl (Lw.gt rfl (mb rfl (bs hm (fun V hm => ?_) fun V hm => ?_)))))
      ·exact psk 6 V rfl (Pb V rfl (nl ((ag) ⟨true, B, rfl, Le.refl _ _, rfl, hm⟩)))
      ·refine wak 6 V (mv k rfl (mi rfl ?_))
       obtain ⟨e6, ci, hm⟩ := ob hm
       exact Lw.r rfl (R.ix (α := Int) D.rd ci rfl rfl rfl) (Lw.r rfl (R.ld rfl rfl (D.rd.at_ ci).int) (mi rfl (Lw.gt rfl (Pb V rfl (nl ((ag) ⟨decide ((d : Int) < (e6 : Int)), B, rfl, Le.refl _ _, rfl, hm⟩))))))
 ·refine Cw.exit ?_
  rw [cv] at hm
  refine sr (mv i rfl (Nv i rfl ?_))
  cases hm
  exact Cw.ret (zhB rfl (Res.mk bq ⟨i, rfl, Z.s.sub rfl rfl⟩))
theorem p204 {x0 b x1 d k0 r} (f : Rd W K [b] x0) (h : Rd W K [d] x1) (hm : Vm.zjt x0 x1 = some r) : Q1 204 [b, d] W [] fun W' v => ∃ a, v = a ∧ Ow W' k0 [] [a] r :=
 (c204 (f.view _) (h.view _) hm).ad (fk k0) fun _ _ ⟨a, e, i⟩ => ⟨a, e, i.back (zfR _)⟩
end Go.Sx
