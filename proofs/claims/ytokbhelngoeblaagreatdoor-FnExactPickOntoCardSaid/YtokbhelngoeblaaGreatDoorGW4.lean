/- Walks: each function answers as its model, printed by a program of ours. Conditions: the arguments read as they are given. -/
import Derived.Test.YtokbhelngoeblaaGreatDoorGTs
import Derived.Test.YtokbhelngoeblaaGreatDoorGM1
import Derived.Test.YtokbhelngoeblaaGreatDoorGW0
import Derived.Test.YtokbhelngoeblaaGreatDoorGW1
namespace Go.Sx
open Go Go.Proofs Go.Vm Rp
set_option linter.unusedVariables false
set_option linter.unusedSimpArgs false
variable {W W0 : CW} {K : List Nat}
theorem c83 {x0 d r} (E : Rd W0 [0] [d] x0) (hm : Vm.zgf x0 = some r) : Q0 83 [d] W0 fun Wf v => ∃ F, v = F ∧ OwS Wf LL [] [F] r := by
 unfold Vm.zgf at hm
 refine zaj.of Tryz.func83 rfl rfl rfl rfl (sr (Nv (.slice none 0 0) rfl (sr (Lw.t rfl (T.lit0 (α := File) 2 []) ?_))))
 rintro G _ ⟨H, rfl, O, P⟩
 have Q := O.o
 refine Nv G rfl (ssr (Ni rfl (Cw.block ?_)))
 obtain ⟨S, U, hm⟩ := zaS hm
 refine Cw.loop 6 27 [3, 4] (fun m l w => ∃ y f a h, CW.w h = w ∧ Le [2, 3] H h ∧ l = [a, vI f] ∧ Ow h 2 [] [a] y ∧ Vm.zdA x0 S m y f = some r) _ ⟨([] : List File), 0, G, H, rfl, Le.refl _ _, rfl, P, hm⟩ ?_
 rintro (_ | m9) _ _ σ ⟨y, f, a, h, rfl, I, rfl, K, hm⟩
 ·cases hm
 unfold Vm.zdA at hm
 have z := Q.t I
 refine ssr (mi rfl (mv d rfl (Lw.ln x0 (E.ul z) rfl (Lw.lt rfl (nl (cn hm (fun hm => ?_) fun hm => ?_))))))
 ·refine sk (Cw.seq (Cw.block (Cw.draw [2, 3] [(0, 0), (1, 0), (2, 0), (3, 0), (4, 0), (5, 1), (7, 0), (8, 0), (9, 0), (10, 0), (11, 1), (6, 2), (12, 2), (13, 0), (14, 2), (15, 2), (16, 0)] mixed (by kernel_rfl) fun an A => ?_)))
  have V := z.n A
  refine Dv a rfl (Dv d rfl (Di rfl ?_))
  obtain ⟨e, B, hm⟩ := ob hm
  have b := E.ul V
  refine Mw.p rfl rfl (fun _ => R.ix (α := File) b B rfl rfl rfl) (Df rfl (Mw.q rfl rfl (fun _ c => R.ld rfl rfl (zah (File.at0 (b.at_ B)).1 rfl (File.at0 (b.at_ B)).str c)) (Dv d rfl (Di rfl ?_))))
  obtain ⟨ao, C, hm⟩ := ob hm
  refine Mw.p rfl rfl (fun _ => R.ix (α := File) b C rfl rfl rfl) (Df rfl ?_)
  obtain ⟨ap, c22, r23⟩ := (File.at1 (b.at_ C)).cell rfl
  refine Mw.q rfl rfl (fun _ c => R.ld rfl rfl (zah (File.at1 (b.at_ C)).1 rfl c22 c)) (Mw.t rfl rfl (T.lit0 (α := Str) 3 []) ?_)
  rintro aq _ ⟨ar, rfl, i, W⟩
  have X := i.o
  refine m0 i fun Y => ?_
  obtain ⟨Z, aa, hm⟩ := ob hm
  refine Mw.t rfl rfl (T.appP (α := Str) W (r23.ul X) rfl rfl aa) ?_
  rintro k _ ⟨au, rfl, D, L⟩
  refine mc Y D fun ac => Mw.p rfl rfl (fun _ => R.bd (zs := [vS ([] : Str), .slice none 0 0]) (cs := [vS e.Path, k]) [(0, vS e.Path), (1, k)] rfl rfl rfl (zaD rfl rfl (zaD L.oc rfl zdN))) (Mw.t rfl rfl (T.bs 4 [.agg [vS e.Path, k].toArray] (cs := [vS e.Path, k]) rfl rfl (bsA rfl)) ?_)
  rintro _ _ ⟨av, aw, rfl, rfl, x, ae⟩
  refine mc ac x fun af => ?_
  obtain ⟨ah, ai, hm⟩ := ob hm
  refine Mw.t rfl rfl (T.app1 (α := File) (J := [3]) (K' := []) ((((K.up A).up i).up D).up x) ae (File.own e.Path Z (L.up x).s) rfl rfl ai) ?_
  rintro M _ ⟨aj, rfl, N, ak⟩
  exact mc af N fun ax => Hv M rfl (Mw.nil (rg (mi rfl (Lw.add rfl (Ni rfl ((agm) ⟨ah, w64 (f + 1), M, aj, rfl, (((((I.j A).j i).j D).j x).j N).w, rfl, ak, hm⟩))))))
 ·refine Cw.exit ?_
  rw [U] at hm
  refine sr (mv a rfl (Nv a rfl ?_))
  cases hm
  exact Cw.ret (zhB rfl (Res.mk z ⟨a, rfl, K.s.sub rfl rfl⟩))
theorem p83 {x0 b k0 r} (d : Rd W K [b] x0) (hm : Vm.zgf x0 = some r) : Q1 83 [b] W [] fun W' v => ∃ a, v = a ∧ Ow W' k0 [] [a] r :=
 (c83 (d.view _) hm).ad (fk k0) fun _ _ ⟨a, e, f⟩ => ⟨a, e, f.back (zfR _)⟩
theorem c120 {x0 A B r} (I : Rd W0 [0] [A, vS x0.Who, B] x0) (hm : Vm.zdv x0 = some r) : Q0 120 [.agg [A, vS x0.Who, B].toArray] W0 fun Wf v => ∃ C D, v = .agg [C, vS r.Who, D].toArray ∧ OwS Wf [31] [] [C] r.Parents ∧ OwS Wf [32] [] [D] r.Tree := by
 unfold Vm.zdv at hm
 obtain ⟨am, an, E, J, K⟩ := Commit.split I
 simp only [List.cons.injEq, and_true, true_and] at E
 obtain ⟨rfl, rfl⟩ := E
 refine zaj.of Tryz.func120 rfl rfl rfl rfl (sr (bo 2 rfl fun g1 W1 L M => ?_))
 have N := L.o
 refine al 3 [.slice none 0 0, vS ([] : Str), .slice none 0 0] fun g3 W3 F O => ?_
 have P := N.n F
 refine nl (Cw.seq (Cw.draw [4] [(1, 0), (2, 1), (4, 0), (5, 1), (6, 0), (7, 1), (0, 2), (3, 2), (8, 2), (9, 0), (10, 3)] mixed (by kernel_rfl) fun W6 e => ?_))
 have Q := P.n e
 have f := (M.up F).up e
 refine Dfl f rfl rfl rfl (Dfl f rfl rfl rfl (Dfl f rfl rfl rfl (Mw.t rfl rfl (T.lit0 (α := Int) 4 []) ?_)))
 rintro av _ ⟨aw, rfl, l10, S⟩
 have G := Q.n l10
 refine m0 l10 fun U => ?_
 obtain ⟨ax, V, hm⟩ := ob hm
 refine Mw.t rfl rfl (T.appP (α := Int) S (J.ul G) rfl rfl V) ?_
 rintro a _ ⟨ay, rfl, h, W⟩
 have H := G.t h
 refine mc U h fun X => ?_
 obtain ⟨az, Y, hm⟩ := ob hm
 refine Mw.t rfl rfl (T.call rfl (p83 (k0 := 5) (K.ul H) Y)) ?_
 rintro b _ ⟨a0, rfl, d, ⟨_, rfl, i⟩⟩
 have Z := H.n d
 have k := W.up d
 refine mc X d fun a1 => Mw.p rfl rfl (fun _ => R.bd (zs := [.slice none 0 0, vS ([] : Str), .slice none 0 0]) (cs := [a, vS x0.Who, b]) [(0, a), (1, vS x0.Who), (2, b)] rfl rfl rfl (zaD k.oc rfl (zaD rfl rfl (zaD i.oc rfl zdN)))) (Mw.lu rfl (T.sta (vs := [a, vS x0.Who, b]) ((((O.up e).up l10).up h).up d) rfl rfl (zaa k.oc (zaa rfl (zaa i.oc zaR))) rfl rfl) ?_)
 rintro _ _ ⟨a3, rfl, x, aa⟩
 have ac := Z.t x
 refine Mw.nil ?_
 obtain ⟨a5, ae, y, af⟩ := (k.up x).dyeO 31
 have ah := ac.t y
 obtain ⟨a6, ai, z, aj⟩ := ((i.up x).up y).dyeO 32
 have ak := ah.t z
 cases hm
 rw [← ai.trans (ae)]
 exact Cw.ret (zlH rfl ((aa.up y).up z) (Res.mk ak ⟨a, b, rfl, (af.up z).s, aj.s⟩))
theorem p120 {x0 d f k0 k1 r} (h : Rd W K [d, vS x0.Who, f] x0) (hm : Vm.zdv x0 = some r) : Q1 120 [.agg [d, vS x0.Who, f].toArray] W [] fun W' v => ∃ a b, v = .agg [a, vS r.Who, b].toArray ∧ Ow W' k0 [] [a] r.Parents ∧ Ow W' k1 [] [b] r.Tree :=
 zaj.adJ (J := []) (fun c => bif Nat.beq c 0 then 0 else bif Nat.beq c 31 then k0 else bif Nat.beq c 32 then k1 else 0) (c120 (h.view _) hm) fun _ _ ⟨a, b, e, i, k⟩ => ⟨a, b, e, i.one1.backN rfl, k.one1.backN rfl⟩
theorem c58 {x0 W X r} (h0 : Rd W0 [0] [W, X] x0) (hm : Vm.zfJ x0 = some r) : Q0 58 [.agg [W, X].toArray] W0 fun Wf v => ∃ Y Z, v = .agg [Y, Z].toArray ∧ OwS Wf [31] [] [Y] r.Commits ∧ OwS Wf [32] [] [Z] r.Heads := by
 unfold Vm.zfJ at hm
 obtain ⟨b2, b4, aa, ac, aq⟩ := Repo.split h0
 simp only [List.cons.injEq, and_true, true_and] at aa
 obtain ⟨rfl, rfl⟩ := aa
 refine zaj.of Tryz.func58 rfl rfl rfl rfl (sr (bo 2 rfl fun g1 W1 l1 b1 => ?_))
 have a2 := l1.o
 refine al 3 [.slice none 0 0, .slice none 0 0] fun g3 W3 l3 b3 => ?_
 have a4 := a2.n l3
 refine nl (sr (Lw.t rfl (T.lit0 (α := Head) 4 []) ?_))
 rintro v6 _ ⟨W6, rfl, C, o6⟩
 have a7 := a4.n C
 have b8 := (b1.up l3).up C
 refine fl b8 rfl ?_
 obtain ⟨az, a0, hm⟩ := ob hm
 refine Lw.t rfl (T.appP (α := Head) o6 (aq.ul a7) rfl rfl a0) ?_
 rintro D _ ⟨cd, rfl, E, F⟩
 have a1 := a7.t E
 refine Lw.r rfl (R.bd (zs := [.slice none 0 0, .slice none 0 0]) (cs := [.slice none 0 0, D]) [(1, D)] rfl rfl rfl (zaD F.oc rfl zdN)) (al 5 [.slice none 0 0, .slice none 0 0] fun a3 ce e a5 => ?_)
 have a6 := a1.n e
 refine sta a5 (zaa rfl (zaa (F.up e).oc zaR)) fun ai i a8 => ?_
 have a9 := a6.t i
 refine nl (ssr (Ni rfl (Cw.block ?_)))
 obtain ⟨ba, bb, hm⟩ := zaS hm
 refine Cw.loop 10 27 [4] (fun m l w => ∃ k G x y f d, CW.w d = w ∧ Le [5, 6, 7, 8] ai d ∧ l = [vI k] ∧ Ow d 6 [] [y] G ∧ Ow d 4 [] [f] x ∧ Bx d 5 a3 [y, f] ∧ Vm.zdB x0 ba m k G x = some r) _ ⟨0, ([] : List Commit), az, .slice none 0 0, D, ai, rfl, Le.refl _ _, rfl, owN 6 [], ((F.up e).up i), a8, hm⟩ ?_
 rintro (_ | cf) _ _ σ ⟨k, G, x, y, f, d, rfl, z, rfl, H, I, L, hm⟩
 ·cases hm
 unfold Vm.zdB at hm
 have M := a9.t z
 have aj := (((b8.up E).up e).up i).up z
 refine ssr (mi rfl (fl aj rfl (Lw.ln x0.Commits (ac.ul M) rfl (Lw.lt rfl (nl (cn hm (fun hm => ?_) fun hm => ?_))))))
 ·refine sk (Cw.seq (Cw.block (Cw.draw [6, 7, 8] [(0, 0), (1, 1), (2, 0), (3, 1), (4, 0), (5, 0), (6, 1), (7, 2), (8, 2), (9, 2), (10, 0), (11, 3)] mixed (by kernel_rfl) fun cg a => ?_)))
  have bc := M.n a
  refine Dfl (L.up a) rfl rfl rfl (Dfl (aj.up a) rfl rfl rfl (Di rfl ?_))
  obtain ⟨N, O, hm⟩ := ob hm
  have P := ac.ul bc
  refine Mw.p rfl rfl (fun _ => R.ix (α := Commit) P O rfl rfl rfl) ?_
  obtain ⟨x53, c54, _, r55⟩ := (P.at_ O).cells
  obtain ⟨ch, ci, rfl, r57, r59⟩ := Commit.split r55
  refine Mw.q rfl rfl (fun _ c => R.lda (zhM (P.at_ O).1 rfl c54 c) rfl rfl) (Dc hm (Le.refl _ _) (fun _ => p120 (k0 := 7) (k1 := 8) (Commit.rd (K := [0]) N.Parents N.Who N.Tree r57 r59)) rfl ?_)
  rintro h _ cj hm A ⟨ak, am, rfl, be, bg⟩ bh
  refine Mw.t rfl rfl (T.bs 9 [.agg [ak, vS h.Who, am].toArray] (cs := [ak, vS h.Who, am]) rfl rfl (bsA rfl)) ?_
  rintro _ _ ⟨ck, cl, rfl, rfl, b, bi⟩
  refine mc bh b fun bj => ?_
  obtain ⟨bk, bl, hm⟩ := ob hm
  refine Mw.t rfl rfl (T.app1 (α := Commit) (J := [7, 8]) (K' := []) (((H.up a).up A).up b) bi (Commit.own h.Parents h.Who h.Tree (be.up b).s (bg.up b).s) rfl rfl bl) ?_
  rintro an _ ⟨cm, rfl, B, ao⟩
  refine mc bj B fun co => Df rfl (Mw.lu rfl (T.st (j := 0) (v := an) ((((L.up a).up A).up b).up B) rfl rfl ao.oc rfl rfl) ?_)
  rintro _ _ ⟨bm, rfl, Q, bn⟩
  exact Mw.nil (rg (mi rfl (Lw.add rfl (Ni rfl ((agm) ⟨w64 (k + 1), bk, x, an, f, bm, rfl, (((((z.j a).j A).j b).j B).j Q).w, rfl, (ao.up Q), (((((I.up a).up A).up b).up B).up Q), bn, hm⟩)))))
 ·refine Cw.exit ?_
  rw [bb] at hm
  refine sr (la L (sta (((((b3.up C).up E).up e).up i).up z) (zaa H.oc (zaa I.oc zaR)) fun cp S bp => ?_))
  have bq := M.t S
  refine nl ?_
  obtain ⟨cq, br, U, bu⟩ := (H.up S).dyeO 31
  have bv := bq.t U
  obtain ⟨ct, bw, V, bz⟩ := ((I.up S).up U).dyeO 32
  have b0 := bv.t V
  cases hm
  rw [← bw.trans (br)]
  exact Cw.ret (zlH rfl ((bp.up U).up V) (Res.mk b0 ⟨y, f, rfl, (bu.up V).s, bz.s⟩))
theorem p58 {x0 d f k0 k1 r} (h : Rd W K [d, f] x0) (hm : Vm.zfJ x0 = some r) : Q1 58 [.agg [d, f].toArray] W [] fun W' v => ∃ a b, v = .agg [a, b].toArray ∧ Ow W' k0 [] [a] r.Commits ∧ Ow W' k1 [] [b] r.Heads :=
 zaj.adJ (J := []) (fun c => bif Nat.beq c 0 then 0 else bif Nat.beq c 31 then k0 else bif Nat.beq c 32 then k1 else 0) (c58 (h.view _) hm) fun _ _ ⟨a, b, e, i, k⟩ => ⟨a, b, e, i.one1.backN rfl, k.one1.backN rfl⟩
theorem c59 {x0 S U x1 x2 r} (h0 : Rd W0 [0] [S, U] x0) (hm : Vm.zg6 x0 x1 x2 = some r) : Q0 59 [.agg [S, U].toArray, vI x1, vI x2] W0 fun Wf v => ∃ V, v = V ∧ OwS Wf LL [] [V] r := by
 unfold Vm.zg6 at hm
 obtain ⟨bq, br, W, e, J⟩ := Repo.split h0
 simp only [List.cons.injEq, and_true, true_and] at W
 obtain ⟨rfl, rfl⟩ := W
 refine zaj.of Tryz.func59 rfl rfl rfl rfl (sr (bo 2 rfl fun g1 W1 l1 b1 => ?_))
 have a2 := l1.o
 refine Nv (.slice none 0 0) rfl (sr (Lw.t rfl (T.lit0 (α := Int) 3 []) ?_))
 rintro X _ ⟨W3, rfl, Y, o3⟩
 have z := a2.n Y
 have f := b1.up Y
 refine Nv X rfl (Cw.seq ?_)
 obtain ⟨K8, av, hm⟩ := zaS hm
 refine Cw.join 12 32 [32] (fun l w => ∃ L M, CW.w M = w ∧ Le [] W3 M ∧ l = [vB L] ∧ K8 L = some r) ?_ ?_
 ·rintro _ _ σ ⟨L, M, rfl, A, rfl, hm⟩
  rw [av] at hm
  have B := z.n A
  refine cn hm (fun hm => ?_) fun hm => ?_
  ·refine sr (Nv (.slice none 0 0) rfl ?_)
   cases hm
   exact Cw.ret (zhB rfl (Res.mk B ⟨.slice none 0 0, rfl, (zm5 []).sub rfl rfl⟩))
  ·refine sk (sr (la (f.up A) (mi rfl (cr hm (fun _ => p121 (k0 := 4) (Repo.rd (K := [0]) x0.Commits x0.Heads (e.ul B) (J.ul B))) ?_))))
   rintro aw Z bw hm N ⟨_, rfl, ax⟩
   have O := B.n N
   refine Nv Z rfl (sr (la ((f.up A).up N) (mi rfl (cr hm (fun _ => p121 (k0 := 5) (Repo.rd (K := [0]) x0.Commits x0.Heads (e.ul O) (J.ul O))) ?_))))
   rintro aa C ac hm P ⟨_, rfl, ay⟩
   have az := O.n P
   refine Nv C rfl (ssr (Ni rfl (Cw.block ?_)))
   obtain ⟨a0, a1, hm⟩ := zaS hm
   refine Cw.loop 39 58 [7, 10] (fun m l w => ∃ D E a h, CW.w h = w ∧ Le [3] ac h ∧ l = [a, vI E] ∧ Ow h 3 [] [a] D ∧ Vm.zdC aw aa a0 m D E = some r) _ ⟨([] : List Int), 0, X, ac, rfl, Le.refl _ _, rfl, (((o3.up A).up N).up P), hm⟩ ?_
   rintro (_ | bz) _ _ σ ⟨D, E, a, h, rfl, F, rfl, Q, hm⟩
   ·cases hm
   unfold Vm.zdC at hm
   have a3 := az.t F
   have i := ay.up F
   refine ssr (mi rfl (mv C rfl (Lw.ln aa i.rd rfl (Lw.lt rfl (nl (cn hm (fun hm => ?_) fun hm => ?_))))))
   ·refine sk ?_
    obtain ⟨a5, a6, hm⟩ := zaS hm
    refine Cw.join 45 58 [7] (fun l w => ∃ G H k, CW.w k = w ∧ Le [3] h k ∧ l = [H] ∧ Ow k 3 [] [H] G ∧ a5 G = some r) ?_ ?_
    ·rintro _ _ σ ⟨G, H, k, rfl, a7, rfl, a8, hm⟩
     rw [a6] at hm
     exact rg (mi rfl (Lw.add rfl (Ni rfl ((agm) ⟨G, w64 (E + 1), H, k, rfl, (F.j a7).w, rfl, a8, hm⟩))))
    ·refine Cw.block (sr (mv Z rfl (mv C rfl (mi rfl ?_))))
     obtain ⟨b0, ae, hm⟩ := ob hm
     refine Lw.r rfl (R.ix (α := Int) i.rd ae rfl rfl rfl) (Lw.r rfl (R.ld rfl rfl (i.rd.at_ ae).int) (ca hm (fun _ => p122 (K := [4]) ((ax.up P).up F).rd) fun b2 ba hm b => Lw.r rfl (R.not rfl) (nl (cn hm (fun hm => ?_) fun hm => ?_))))
     ·refine rg (mv a rfl (mv C rfl (mi rfl ?_)))
      obtain ⟨af, ah, hm⟩ := ob hm
      refine Lw.r rfl (R.ix (α := Int) (i.up b).rd ah rfl rfl rfl) (Lw.r rfl (R.ld rfl rfl ((i.up b).rd.at_ ah).int) (Lw.t rfl (T.bs 6 [vI af] (cs := [vI af]) rfl rfl (bsv rfl)) ?_))
      rintro _ _ ⟨b3, b4, rfl, rfl, ai, bb⟩
      obtain ⟨bc, be, hm⟩ := ob hm
      refine Lw.t rfl (T.app1S (α := Int) (K' := []) ((Q.up b).up ai) bb (rdI _) rfl rfl be) ?_
      rintro aj _ ⟨bg, rfl, bh, bi⟩
      exact Nv aj rfl ((ag) ⟨bc, aj, bg, rfl, ((b.j ai).j bh).w, rfl, bi, hm⟩)
     ·exact sk ((ag) ⟨D, a, ba, rfl, b.w, rfl, (Q.up b), hm⟩)
   ·refine Cw.exit ?_
    rw [a1] at hm
    refine sr (mv a rfl (Nv a rfl ?_))
    cases hm
    exact Cw.ret (zhB rfl (Res.mk a3 ⟨a, rfl, Q.s.sub rfl rfl⟩))
 ·refine rg (la f (ca hm (fun _ => p55 (Repo.rd (K := [0]) x0.Commits x0.Heads (e.ul z) (J.ul z))) fun b6 bj hm d => ?_))
  have ak := z.n d
  refine Lw.r rfl (R.not rfl) (mb rfl (bs hm (fun x hm => ?_) fun x hm => ?_))
  ·exact psk 7 x rfl (Pb x rfl (mb rfl (psk 7 rfl rfl (Pb rfl rfl (nl ((ag) ⟨true, bj, rfl, d, rfl, hm⟩))))))
  ·refine wak 7 x (mi rfl (fl (f.up d) rfl (Lw.ln x0.Commits (e.ul ak) rfl (Lw.sub rfl (ca hm (fun _ => p57) fun b7 bk hm I => ?_)))))
   have bl := ak.n I
   refine Lw.r rfl (R.not rfl) (Pb x rfl (mb rfl (bs hm (fun y hm => ?_) fun y hm => ?_)))
   ·exact psk 7 y rfl (Pb y rfl (nl ((ag) ⟨true, bk, rfl, (d.j I).w, rfl, hm⟩)))
   ·exact wak 7 y (mi rfl (fl ((f.up d).up I) rfl (Lw.ln x0.Commits (e.ul bl) rfl (Lw.sub rfl (ca hm (fun _ => p57) fun bm bn hm bp => Lw.r rfl (R.not rfl) (Pb y rfl (nl ((ag) ⟨(!bm), bn, rfl, ((d.j I).j bp).w, rfl, hm⟩))))))))
theorem p59 {x0 b d x1 x2 k0 r} (f : Rd W K [b, d] x0) (hm : Vm.zg6 x0 x1 x2 = some r) : Q1 59 [.agg [b, d].toArray, vI x1, vI x2] W [] fun W' v => ∃ a, v = a ∧ Ow W' k0 [] [a] r :=
 (c59 (f.view _) hm).ad (fk k0) fun _ _ ⟨a, e, h⟩ => ⟨a, e, h.back (zfR _)⟩
theorem c60 {x0 y a6 x1 x2 r} (h0 : Rd W0 [0] [y, a6] x0) (hm : Vm.zgg x0 x1 x2 = some r) : Q0 60 [.agg [y, a6].toArray, vS x1, vI x2] W0 fun Wf v => ∃ a8 a9, v = .agg [a8, a9].toArray ∧ Rd Wf [0] [a8] r.Commits ∧ Rd Wf [0] [a9] r.Heads := by
 unfold Vm.zgg at hm
 obtain ⟨ds, dt, ba, ak, I⟩ := Repo.split h0
 simp only [List.cons.injEq, and_true, true_and] at ba
 obtain ⟨rfl, rfl⟩ := ba
 refine zaj.of Tryz.func60 rfl rfl rfl rfl (sr (bo 2 rfl fun g1 W1 l1 b1 => ?_))
 have a2 := l1.o
 refine al 3 [.slice none 0 0, .slice none 0 0] fun g3 W3 l3 b3 => ?_
 have a4 := a2.n l3
 refine nl (sr (fl (b1.up l3) rfl (Lw.r rfl (R.bd (zs := [.slice none 0 0, .slice none 0 0]) (cs := [y, .slice none 0 0]) [(0, y)] rfl rfl rfl (zaD ak.oc rfl zdN)) (al 4 [.slice none 0 0, .slice none 0 0] fun J W6 l6 b6 => ?_))))
 have a7 := a4.n l6
 refine sta b6 (zaa ak.oc (zaa rfl zaR)) fun bc l10 cd => ?_
 have be := a7.t l10
 refine nl (sr (Nb rfl (ssr (Ni rfl (Cw.block ?_)))))
 obtain ⟨ce, cf, hm⟩ := zaS hm
 refine Cw.loop 13 57 [8, 9] (fun m l w => ∃ L N b z d A a, CW.w a = w ∧ Le [4, 5] bc a ∧ l = [vB L, vI N] ∧ Rd a [0] [d] b ∧ Ow a 5 [] [A] z ∧ Bx a 4 J [d, A] ∧ Vm.zdD x0 x1 x2 ce m L N b z = some r) _ ⟨false, 0, x0.Commits, ([] : List Head), y, .slice none 0 0, bc, rfl, Le.refl _ _, rfl, (ak.ul be), owN 5 [], cd, hm⟩ ?_
 rintro (_ | dz) _ _ σ ⟨L, N, b, z, d, A, a, rfl, O, rfl, r18, P, Q, hm⟩
 ·cases hm
 unfold Vm.zdD at hm
 have ao := be.t O
 have S := (((b1.up l3).up l6).up l10).up O
 refine ssr ?_
 have ap := I.ul ao
 refine mi rfl (fl S rfl (Lw.ln x0.Heads ap rfl (Lw.lt rfl (nl (cn hm (fun hm => ?_) fun hm => ?_)))))
 ·refine sk ?_
  obtain ⟨cg, ch, hm⟩ := zaS hm
  refine Cw.join 20 57 [8] (fun l w => ∃ U V W X Y e, CW.w e = w ∧ Le [4, 5] a e ∧ l = [vB U] ∧ Rd e [0] [X] V ∧ Ow e 5 [] [Y] W ∧ Bx e 4 J [X, Y] ∧ cg U V W = some r) ?_ ?_
  ·rintro _ _ σ ⟨U, V, W, X, Y, e, rfl, ci, rfl, r35, cj, ck, hm⟩
   rw [ch] at hm
   exact rg (mi rfl (Lw.add rfl (Ni rfl ((agm) ⟨U, w64 (N + 1), V, W, X, Y, e, rfl, (O.j ci).w, rfl, r35, cj, ck, hm⟩))))
  ·refine Cw.block ?_
   obtain ⟨cl, cm, hm⟩ := zaS hm
   refine Cw.join 20 39 [8] (fun l w => ∃ B C Z D aa f, CW.w f = w ∧ Le [4, 5] a f ∧ l = [vB B] ∧ Rd f [0] [D] C ∧ Ow f 5 [] [aa] Z ∧ Bx f 4 J [D, aa] ∧ cl B C Z = some r) ?_ ?_
   ·rintro _ _ σ ⟨B, C, Z, D, aa, f, rfl, E, rfl, r48, bg, aq, hm⟩
    rw [cm] at hm
    have ar := ao.t E
    refine sr (fl (S.up E) rfl (mi rfl ?_))
    obtain ⟨d0, bh, hm⟩ := ob hm
    refine Lw.r rfl (R.ix (α := Head) (I.ul ar) bh rfl rfl rfl) (Lw.fa rfl (Lw.r rfl (R.ld rfl rfl (Head.at0 ((I.ul ar).at_ bh)).str) (ms rfl (Lw.sne rfl (nl (cn hm (fun hm => ?_) fun hm => ?_))))))
    ·refine Cw.draw [5] [(0, 0), (1, 1), (2, 0), (3, 1), (4, 0), (5, 0), (6, 1), (7, 2), (8, 2), (9, 0), (10, 3)] mixed (by kernel_rfl) fun d1 h => ?_
     have bi := h.o
     refine Dfl (aq.up h) rfl rfl rfl (Dfl ((S.up E).up h) rfl rfl rfl (Di rfl ?_))
     obtain ⟨i, au, hm⟩ := ob hm
     have av := I.ul (ar.trans bi)
     refine Mw.p rfl rfl (fun _ => R.ix (α := Head) av au rfl rfl rfl) ?_
     obtain ⟨x71, c72, _, r73⟩ := (av.at_ au).cells
     obtain rfl := Head.split r73
     refine Mw.q rfl rfl (fun _ c => R.lda (zhM (av.at_ au).1 rfl c72 c) rfl rfl) (Mw.t rfl rfl (T.bs 6 [.agg [vS i.Name, vI i.At].toArray] (cs := [vS i.Name, vI i.At]) rfl rfl (bsA rfl)) ?_)
     rintro _ _ ⟨d2, d3, rfl, rfl, F, co⟩
     have cp := bi.n F
     refine m0 F fun cq => ?_
     obtain ⟨ct, cu, hm⟩ := ob hm
     refine Mw.t rfl rfl (T.app1S (α := Head) (K' := []) ((bg.up h).up F) co (Head.rd (K := []) i.Name i.At) rfl rfl cu) ?_
     rintro bj _ ⟨d4, rfl, ac, bk⟩
     have cv := cp.t ac
     refine mc cq ac fun d5 => Df rfl (Mw.lu rfl (T.st (j := 1) (v := bj) (((aq.up h).up F).up ac) rfl rfl bk.oc rfl rfl) ?_)
     rintro _ _ ⟨cw, rfl, aw, cx⟩
     have cy := cv.t aw
     exact Mw.nil ((ag) ⟨B, C, ct, D, bj, cw, rfl, ((((E.j h).j F).j ac).j aw).w, rfl, (r48.ul cy), (bk.up aw), cx, hm⟩)
    ·exact sk ((ag) ⟨B, C, Z, D, aa, f, rfl, E, rfl, r48, bg, aq, hm⟩)
   ·obtain ⟨cz, c0, hm⟩ := zaS hm
    refine Cw.join 20 31 [31] (fun l w => ∃ ax ae, CW.w ae = w ∧ Le [] a ae ∧ l = [vB ax] ∧ cz ax = some r) ?_ ?_
    ·rintro _ _ σ ⟨ax, ae, rfl, k, rfl, hm⟩
     rw [c0] at hm
     have bl := k.o
     have ay := Q.up k
     refine cn hm (fun hm => ?_) fun hm => ?_
     ·refine sr (fl ay rfl (ms rfl (mi rfl (Lw.r rfl (R.bd (zs := [vS ([] : Str), vI 0]) (cs := [vS x1, vI x2]) [(0, vS x1), (1, vI x2)] rfl rfl rfl (zaD rfl rfl (zaD rfl rfl zdN))) (Lw.t rfl (T.bs 7 [.agg [vS x1, vI x2].toArray] (cs := [vS x1, vI x2]) rfl rfl (bsA rfl)) ?_)))))
      rintro _ _ ⟨d6, d7, rfl, rfl, af, c1⟩
      have c2 := bl.n af
      obtain ⟨c3, c4, hm⟩ := ob hm
      refine Lw.t rfl (T.app1S (α := Head) (K' := []) ((P.up k).up af) c1 (Head.rd (K := []) x1 x2) rfl rfl c4) ?_
      rintro bm _ ⟨d8, rfl, az, bn⟩
      have c5 := c2.t az
      refine Lw.fa rfl (Lw.u (T.st (j := 1) (v := bm) ((ay.up af).up az) rfl rfl bn.oc rfl rfl) ?_)
      rintro _ _ ⟨c6, rfl, a0, c7⟩
      have c8 := c5.t a0
      exact nl (rg (Nb rfl ((ag) ⟨true, b, c3, d, bm, c6, rfl, (((k.j af).j az).j a0).w, rfl, (r18.ul c8), (bn.up a0), c7, hm⟩)))
     ·exact sk ((ag) ⟨L, b, z, d, A, ae, rfl, k.w, rfl, (r18.ul bl), (P.up k), ay, hm⟩)
    ·refine rg (mb rfl (Lw.r rfl (R.not rfl) (mb rfl (bs hm (fun G hm => ?_) fun G hm => ?_))))
     ·refine wak 8 G (fl S rfl (mi rfl ?_))
      obtain ⟨c9, bp, hm⟩ := ob hm
      exact Lw.r rfl (R.ix (α := Head) ap bp rfl rfl rfl) (Lw.fa rfl (Lw.r rfl (R.ld rfl rfl (Head.at0 (ap.at_ bp)).str) (ms rfl (Lw.r rfl (R.sge rfl rfl) (Pb G rfl (nl ((ag) ⟨(!Op.bytesLess c9.Name x1), a, rfl, Le.refl _ _, rfl, hm⟩)))))))
     ·exact psk 8 G rfl (Pb G rfl (nl ((ag) ⟨false, a, rfl, Le.refl _ _, rfl, hm⟩)))
 ·refine Cw.exit ?_
  rw [cf] at hm
  obtain ⟨da, db, hm⟩ := zaS hm
  refine Cw.join 58 67 [] (fun l w => ∃ a1 ah ai H x, CW.w x = w ∧ Le [4, 5] a x ∧ l = [] ∧ Rd x [0] [ai] a1 ∧ Ow x 5 [] [H] ah ∧ Bx x 4 J [ai, H] ∧ da a1 ah = some r) ?_ ?_
  ·rintro _ _ σ ⟨a1, ah, ai, H, x, rfl, bq, rfl, r131, br, dc, hm⟩
   rw [db] at hm
   have dd := ao.t bq
   refine sr (la dc (sta ((((b3.up l6).up l10).up O).up bq) (zaa r131.oc (zaa br.oc zaR)) fun d9 bu de => ?_))
   have bv := bu.s
   refine nl ?_
   obtain ⟨df, dg, bw, dh⟩ := zp4 _ 5
   have di : Rd (α := List Vm.Head) df [0] [H] ah := by rw [dh]; exact ((br.up bu).rd.dye 5).sub (M := [0]) rfl
   have bz := bw.s
   cases hm
   rw [← dg]
   exact Cw.ret (zlH rfl (de.up bw) (Res.mk ((dd.trans bv).trans bz) ⟨ai, H, rfl, (r131.ul (bv.trans bz)), di⟩))
  ·refine sr (mb rfl (Lw.r rfl (R.not rfl) (nl (cn hm (fun hm => ?_) fun hm => ?_))))
   ·refine rg (fl Q rfl (ms rfl (mi rfl (Lw.r rfl (R.bd (zs := [vS ([] : Str), vI 0]) (cs := [vS x1, vI x2]) [(0, vS x1), (1, vI x2)] rfl rfl rfl (zaD rfl rfl (zaD rfl rfl zdN))) (Lw.t rfl (T.bs 8 [.agg [vS x1, vI x2].toArray] (cs := [vS x1, vI x2]) rfl rfl (bsA rfl)) ?_)))))
    rintro _ _ ⟨ea, eb, rfl, rfl, aj, dj⟩
    have dk := aj.o
    obtain ⟨dl, dm, hm⟩ := ob hm
    refine Lw.t rfl (T.app1S (α := Head) (K' := []) (P.up aj) dj (Head.rd (K := []) x1 x2) rfl rfl dm) ?_
    rintro b0 _ ⟨ec, rfl, a3, b2⟩
    have dn := dk.t a3
    refine Lw.fa rfl (Lw.u (T.st (j := 1) (v := b0) ((Q.up aj).up a3) rfl rfl b2.oc rfl rfl) ?_)
    rintro _ _ ⟨dp, rfl, a5, dq⟩
    have dr := dn.t a5
    exact nl ((ag) ⟨b, dl, d, b0, dp, rfl, ((aj.j a3).j a5).w, rfl, (r18.ul dr), (b2.up a5), dq, hm⟩)
   ·exact sk ((ag) ⟨b, z, d, A, a, rfl, Le.refl _ _, rfl, r18, P, Q, hm⟩)
theorem p60 {x0 d f x1 x2 r} (h : Rd W K [d, f] x0) (hm : Vm.zgg x0 x1 x2 = some r) : Q1 60 [.agg [d, f].toArray, vS x1, vI x2] W [] fun W' v => ∃ a b, v = .agg [a, b].toArray ∧ Rd W' (0 :: K) [a] r.Commits ∧ Rd W' (0 :: K) [b] r.Heads :=
 (c60 (h.view _) hm).ad (fk 0) fun _ _ ⟨a, b, e, i, k⟩ => ⟨a, b, e, i.back rfl, k.back rfl⟩
theorem c62 {x0 k x x1 r} (D : Rd W0 [0] [k, x] x0) (hm : Vm.zdf x0 x1 = some r) : Q0 62 [.agg [k, x].toArray, vI x1] W0 fun Wf v => ∃ y, v = y ∧ Rd Wf [0] [y] r := by
 unfold Vm.zdf at hm
 obtain ⟨G, H, z, d, I⟩ := Repo.split D
 simp only [List.cons.injEq, and_true, true_and] at z
 obtain ⟨rfl, rfl⟩ := z
 refine zaj.of Tryz.func62 rfl rfl rfl rfl (sr (bo 2 rfl fun J L E e => ?_))
 have b := E.o
 refine Nv (.slice none 0 0) rfl (ssr (fl e rfl (mi rfl ?_)))
 obtain ⟨F, A, hm⟩ := ob hm
 refine Lw.r rfl (R.ix (α := Commit) (d.ul b) A rfl rfl rfl) (Lw.fa rfl ?_)
 obtain ⟨M, c7, r8⟩ := (Commit.at0 ((d.ul b).at_ A)).cell rfl
 refine Lw.r rfl (R.ld rfl rfl c7) (Lw.ln F.Parents r8 rfl (Lw.eq rfl (nl (cn hm (fun hm => ?_) fun hm => ?_))))
 ·refine sr (Nv (.slice none 0 0) rfl ?_)
  cases hm
  exact Cw.ret (zhB rfl (Res.mk b ⟨.slice none 0 0, rfl, (rdN (K := [0]))⟩))
 ·refine sk (Cw.seq (Cw.draw [] [(0, 0), (1, 1), (2, 0), (3, 1), (4, 0), (5, 0), (6, 0), (7, 1), (8, 0), (9, 1), (10, 0), (11, 0), (12, 1), (13, 0)] mixed (by kernel_rfl) fun N l10 => ?_))
  have B := b.n l10
  refine Dfl (e.up l10) rfl rfl rfl (Dfl (e.up l10) rfl rfl rfl (Di rfl ?_))
  obtain ⟨O, f, hm⟩ := ob hm
  have a := d.ul B
  refine Mw.p rfl rfl (fun _ => R.ix (α := Commit) a f rfl rfl rfl) (Df rfl ?_)
  obtain ⟨P, c17, r18⟩ := (Commit.at0 (a.at_ f)).cell rfl
  refine Mw.q rfl rfl (fun _ c => R.ld rfl rfl (zah (Commit.at0 (a.at_ f)).1 rfl c17 c)) ?_
  obtain ⟨Q, h, hm⟩ := ob hm
  refine Mw.p rfl rfl (fun _ => R.ix (α := Int) r18 h rfl rfl rfl) (Mw.q rfl rfl (fun _ c => R.ld rfl rfl (zah (r18.at_ h).1 rfl (r18.at_ h).int c)) ?_)
  obtain ⟨S, i, hm⟩ := ob hm
  refine Mw.p rfl rfl (fun _ => R.ix (α := Commit) a i rfl rfl rfl) (Df rfl ?_)
  obtain ⟨C, c24, r25⟩ := (Commit.at2 (a.at_ i)).cell rfl
  refine Mw.q rfl rfl (fun _ c => R.ld rfl rfl (zah (Commit.at2 (a.at_ i)).1 rfl c24 c)) (Hv C rfl (Mw.nil ?_))
  cases hm
  exact Cw.ret (zhB rfl (Res.mk B ⟨C, rfl, r25⟩))
theorem p62 {x0 b d x1 r} (f : Rd W K [b, d] x0) (hm : Vm.zdf x0 x1 = some r) : Q1 62 [.agg [b, d].toArray, vI x1] W [] fun W' v => ∃ a, v = a ∧ Rd W' (0 :: K) [a] r :=
 (c62 (f.view _) hm).ad (fk 0) fun _ _ ⟨a, e, h⟩ => ⟨a, e, h.back rfl⟩
theorem c175 {x0 h x1 i x2 k r} (G : Rd W0 [0] [h] x0) (H : Rd W0 [0] [i] x1) (I : Rd W0 [0] [k] x2) (hm : Vm.zf3 x0 x1 x2 = some r) : Q0 175 [h, i, k] W0 fun Wf v => ∃ N, v = N ∧ Rd Wf [0] [N] r := by
 unfold Vm.zf3 at hm
 refine zaj.of Tryz.func175 rfl rfl rfl rfl (sr (Nv (.slice none 0 0) rfl (sr (Lw.t rfl (T.lit0 (α := Str) 2 []) ?_))))
 rintro J _ ⟨W1, rfl, Y, Z⟩
 have a2 := Y.o
 refine Nv J rfl (ssr (Ni rfl (Cw.block ?_)))
 obtain ⟨K, ac, l3, af⟩ := zp4 _ 2
 rw [← ac]
 have s4 : Rd (α := List Str) K [0] [J] ([] : List Str) := by rw [af]; exact (Z.rd.dye 2).sub (M := [0]) rfl
 have a5 := a2.t l3
 obtain ⟨aj, ak, hm⟩ := zaS hm
 refine Cw.loop 12 24 [7, 8] (fun m l w => ∃ x y e b, CW.w b = w ∧ Le [] K b ∧ l = [e, vI y] ∧ Rd b [0] [e] x ∧ Vm.zc7 x0 aj m x y = some r) _ ⟨([] : List Str), 0, J, K, rfl, Le.refl _ _, rfl, s4, hm⟩ ?_
 rintro (_ | ba) _ _ σ ⟨x, y, e, b, rfl, l10, rfl, r8, hm⟩
 ·cases hm
 unfold Vm.zc7 at hm
 have z := a5.n l10
 refine ssr (mi rfl (mv h rfl (Lw.ln x0 (G.ul z) rfl (Lw.lt rfl (nl (cn hm (fun hm => ?_) fun hm => ?_))))))
 ·refine sk (Cw.seq (Cw.block (rg (mv e rfl (mv h rfl (mi rfl ?_))))))
  obtain ⟨bb, O, hm⟩ := ob hm
  refine Lw.r rfl (R.ix (α := File) (G.ul z) O rfl rfl rfl) (Lw.fa rfl (Lw.r rfl (R.ld rfl rfl (File.at0 ((G.ul z).at_ O)).str) (cr hm (fun _ => p148 r8) ?_)))
  rintro am P an hm ao ⟨_, rfl, ap⟩
  have aq := ap.sub (M := [0]) rfl
  exact Nv P rfl (rg (mi rfl (Lw.add rfl (Ni rfl ((agm) ⟨am, w64 (y + 1), P, an, rfl, (l10.j ao).w, rfl, aq, hm⟩)))))
 ·refine Cw.exit ?_
  rw [ak] at hm
  refine ssr (Ni rfl (Cw.block ?_))
  obtain ⟨ar, au, hm⟩ := zaS hm
  refine Cw.loop 25 37 [7, 9] (fun m l w => ∃ A B f d, CW.w d = w ∧ Le [] b d ∧ l = [f, vI B] ∧ Rd d [0] [f] A ∧ Vm.zbE x1 ar m A B = some r) _ ⟨x, 0, e, b, rfl, Le.refl _ _, rfl, r8, hm⟩ ?_
  rintro (_ | bc) _ _ σ ⟨A, B, f, d, rfl, Q, rfl, r25, hm⟩
  ·cases hm
  unfold Vm.zbE at hm
  have C := z.n Q
  refine ssr (mi rfl (mv i rfl (Lw.ln x1 (H.ul C) rfl (Lw.lt rfl (nl (cn hm (fun hm => ?_) fun hm => ?_))))))
  ·refine sk (Cw.seq (Cw.block (rg (mv f rfl (mv i rfl (mi rfl ?_))))))
   obtain ⟨be, S, hm⟩ := ob hm
   refine Lw.r rfl (R.ix (α := File) (H.ul C) S rfl rfl rfl) (Lw.fa rfl (Lw.r rfl (R.ld rfl rfl (File.at0 ((H.ul C).at_ S)).str) (cr hm (fun _ => p148 r25) ?_)))
   rintro av U aw hm ax ⟨_, rfl, ay⟩
   have az := ay.sub (M := [0]) rfl
   exact Nv U rfl (rg (mi rfl (Lw.add rfl (Ni rfl ((agm) ⟨av, w64 (B + 1), U, aw, rfl, (Q.j ax).w, rfl, az, hm⟩)))))
  ·refine Cw.exit ?_
   rw [au] at hm
   refine ssr (Ni rfl (Cw.block ?_))
   obtain ⟨a0, a1, hm⟩ := zaS hm
   refine Cw.loop 38 50 [7, 10] (fun m l w => ∃ L D a E, CW.w E = w ∧ Le [] d E ∧ l = [a, vI D] ∧ Rd E [0] [a] L ∧ Vm.za1 x2 a0 m L D = some r) _ ⟨A, 0, f, d, rfl, Le.refl _ _, rfl, r25, hm⟩ ?_
   rintro (_ | bg) _ _ σ ⟨L, D, a, E, rfl, V, rfl, r42, hm⟩
   ·cases hm
   unfold Vm.za1 at hm
   have F := C.n V
   refine ssr (mi rfl (mv k rfl (Lw.ln x2 (I.ul F) rfl (Lw.lt rfl (nl (cn hm (fun hm => ?_) fun hm => ?_))))))
   ·refine sk (Cw.seq (Cw.block (rg (mv a rfl (mv k rfl (mi rfl ?_))))))
    obtain ⟨bh, W, hm⟩ := ob hm
    refine Lw.r rfl (R.ix (α := File) (I.ul F) W rfl rfl rfl) (Lw.fa rfl (Lw.r rfl (R.ld rfl rfl (File.at0 ((I.ul F).at_ W)).str) (cr hm (fun _ => p148 r42) ?_)))
    rintro a3 X a4 hm a6 ⟨_, rfl, a7⟩
    have a8 := a7.sub (M := [0]) rfl
    exact Nv X rfl (rg (mi rfl (Lw.add rfl (Ni rfl ((agm) ⟨a3, w64 (D + 1), X, a4, rfl, (V.j a6).w, rfl, a8, hm⟩)))))
   ·refine Cw.exit ?_
    rw [a1] at hm
    refine sr (mv a rfl (Nv a rfl ?_))
    cases hm
    exact Cw.ret (zhB rfl (Res.mk F ⟨a, rfl, r42⟩))
theorem p175 {x0 b x1 d x2 f r} (h : Rd W K [b] x0) (i : Rd W K [d] x1) (k : Rd W K [f] x2) (hm : Vm.zf3 x0 x1 x2 = some r) : Q1 175 [b, d, f] W [] fun W' v => ∃ a, v = a ∧ Rd W' (0 :: K) [a] r :=
 (c175 (h.view _) (i.view _) (k.view _) hm).ad (fk 0) fun _ _ ⟨a, e, x⟩ => ⟨a, e, x.back rfl⟩
theorem c197 {x0 d x1 x2 e x3 r} (i : Rd W0 [0] [d] x0) (k : Rd W0 [0] [e] x2) (hm : Vm.zfK x0 x1 x2 x3 = some r) : Q0 197 [d, vB x1, e, vB x3] W0 fun Wf v => v = vB r := by
 unfold Vm.zfK at hm
 refine zaj.of Tryz.func197 rfl rfl rfl rfl (sr (Nb rfl ?_))
 obtain ⟨x, y, hm⟩ := zaS hm
 refine Cw.join 9 20 [8] (fun l w => ∃ f h, CW.w h = w ∧ Le [] W0 h ∧ l = [vB f] ∧ x f = some r) ?_ ?_
 ·rintro _ _ σ ⟨f, h, rfl, z, rfl, hm⟩
  rw [y] at hm
  have A := z.o
  exact .ret (rt hm A)
 ·refine rg (mb rfl (mb rfl (Lw.r rfl (R.beq rfl rfl) (mb rfl (bs hm (fun a hm => ?_) fun a hm => ?_)))))
  ·refine wak 3 a (mb rfl (Lw.r rfl (R.not rfl) (mb rfl (bs hm (fun b hm => ?_) fun b hm => ?_))))
   ·exact psk 3 b rfl (wak 1 a (Pb b rfl (Pb a rfl (Nb rfl ((ag) ⟨true, W0, rfl, Le.refl _ _, rfl, hm⟩)))))
   ·exact wak 3 b (mv d rfl (mv e rfl (ca hm (fun _ => p203 i k) fun B C hm D => wak 1 a (Pb b rfl (Pb a rfl (Nb rfl ((ag) ⟨B, C, rfl, D, rfl, hm⟩)))))))
  ·exact psk 3 a rfl (puk 3 rfl (psk 1 a rfl (Pb a rfl (Nb rfl ((ag) ⟨false, W0, rfl, Le.refl _ _, rfl, hm⟩)))))
theorem p197 {x0 a x1 x2 b x3 r} (d : Rd W K [a] x0) (f : Rd W K [b] x2) (hm : Vm.zfK x0 x1 x2 x3 = some r) : Q1 197 [a, vB x1, b, vB x3] W [] fun W' v => v = vB r :=
 (c197 (d.view _) (f.view _) hm).ad (fk 0) fun _ _ e => e
theorem c226 {x0 d x1 a x2 b r} (C : Rd W0 [0] [d] x0) (e : Rd W0 [0] [a] x1) (f : Rd W0 [0] [b] x2) (hm : Vm.zg7 x0 x1 x2 = some r) : Q0 226 [d, a, b] W0 fun Wf v => ∃ V W X Y, v = .agg [vB r.Clash, V, W, X, Y].toArray ∧ OwS Wf [31] [] [V] r.Lines ∧ OwS Wf [32] [] [W] r.Old ∧ OwS Wf [33] [] [X] r.One ∧ OwS Wf [34] [] [Y] r.Two := by
 unfold Vm.zg7 at hm
 refine zaj.of Tryz.func226 rfl rfl rfl rfl (sr (al 2 [vB false, .slice none 0 0, .slice none 0 0, .slice none 0 0, .slice none 0 0] fun g1 W1 l1 Z => ?_))
 have h := l1.o
 refine nl (Cw.seq (Cw.block ?_))
 obtain ⟨K5, a3, hm⟩ := zaS hm
 refine Cw.join 7 13 [7] (fun l w => ∃ D E, CW.w E = w ∧ Le [] W1 E ∧ l = [vB D] ∧ K5 D = some r) ?_ ?_
 ·rintro _ _ σ ⟨D, E, rfl, F, rfl, hm⟩
  rw [a3] at hm
  have i := h.n F
  refine cn hm (fun hm => ?_) fun hm => ?_
  ·refine sr (Lw.t rfl (T.lit0 (α := Str) 3 []) ?_)
   rintro v9 _ ⟨W9, rfl, l9, o9⟩
   have ac := i.n l9
   refine mv b rfl ?_
   obtain ⟨cp, a5, hm⟩ := ob hm
   refine Lw.t rfl (T.appP (α := Str) o9 (f.ul ac) rfl rfl a5) ?_
   rintro G _ ⟨cq, rfl, ae, H⟩
   have a7 := ac.t ae
   refine Lw.r rfl (R.bd (zs := [vB false, .slice none 0 0, .slice none 0 0, .slice none 0 0, .slice none 0 0]) (cs := [vB false, G, .slice none 0 0, .slice none 0 0, .slice none 0 0]) [(1, G)] rfl rfl rfl (zaD H.oc rfl zdN)) (sta (((Z.up F).up l9).up ae) (zaa rfl (zaa H.oc (zaa rfl (zaa rfl (zaa rfl zaR))))) fun ct af a8 => ?_)
   have a9 := a7.t af
   refine nl ?_
   obtain ⟨cu, ba, ah, bb⟩ := (H.up af).dyeO 31
   have bc := a9.t ah
   cases hm
   rw [← ba]
   exact Cw.ret (zlH rfl (a8.up ah) (Res.mk bc ⟨G, .slice none 0 0, .slice none 0 0, .slice none 0 0, rfl, bb.s, (zm5 []).sub rfl rfl, (zm5 []).sub rfl rfl, (zm5 []).sub rfl rfl⟩))
  ·refine sr (mv b rfl (mv d rfl (ca hm (fun _ => p203 (f.ul i) (C.ul i)) fun cv cw hm ai => ?_)))
   have aj := i.n ai
   have ak := (Z.up F).up ai
   refine Nb rfl (cn hm (fun hm => ?_) fun hm => ?_)
   ·refine sr (Lw.t rfl (T.lit0 (α := Str) 4 []) ?_)
    rintro cx _ ⟨cy, rfl, am, be⟩
    have an := aj.n am
    refine mv a rfl ?_
    obtain ⟨cz, bg, hm⟩ := ob hm
    refine Lw.t rfl (T.appP (α := Str) be (e.ul an) rfl rfl bg) ?_
    rintro I _ ⟨c0, rfl, ao, J⟩
    have bh := an.t ao
    refine Lw.r rfl (R.bd (zs := [vB false, .slice none 0 0, .slice none 0 0, .slice none 0 0, .slice none 0 0]) (cs := [vB false, I, .slice none 0 0, .slice none 0 0, .slice none 0 0]) [(1, I)] rfl rfl rfl (zaD J.oc rfl zdN)) (sta ((ak.up am).up ao) (zaa rfl (zaa J.oc (zaa rfl (zaa rfl (zaa rfl zaR))))) fun c1 ap bi => ?_)
    have bj := bh.t ap
    refine nl ?_
    obtain ⟨c2, bk, aq, bl⟩ := (J.up ap).dyeO 31
    have bm := bj.t aq
    cases hm
    rw [← bk]
    exact Cw.ret (zlH rfl (bi.up aq) (Res.mk bm ⟨I, .slice none 0 0, .slice none 0 0, .slice none 0 0, rfl, bl.s, (zm5 []).sub rfl rfl, (zm5 []).sub rfl rfl, (zm5 []).sub rfl rfl⟩))
   ·refine sk (sr (Lw.t rfl (T.lit0 (α := Str) 5 []) ?_))
    rintro c3 _ ⟨c4, rfl, ar, bn⟩
    have au := aj.n ar
    refine mv d rfl ?_
    obtain ⟨c5, bp, hm⟩ := ob hm
    refine Lw.t rfl (T.appP (α := Str) bn (C.ul au) rfl rfl bp) ?_
    rintro K _ ⟨c6, rfl, av, bq⟩
    have br := au.t av
    refine Lw.t rfl (T.lit0 (α := Str) 6 []) ?_
    rintro c7 _ ⟨c8, rfl, L, bu⟩
    have aw := br.n L
    refine mv a rfl ?_
    obtain ⟨c9, bv, hm⟩ := ob hm
    refine Lw.t rfl (T.appP (α := Str) bu (e.ul aw) rfl rfl bv) ?_
    rintro M _ ⟨da, rfl, N, bw⟩
    have bz := aw.t N
    refine Lw.t rfl (T.lit0 (α := Str) 7 []) ?_
    rintro db _ ⟨dc, rfl, k, b0⟩
    have ax := bz.n k
    refine mv b rfl ?_
    obtain ⟨dd, b2, hm⟩ := ob hm
    refine Lw.t rfl (T.appP (α := Str) b0 (f.ul ax) rfl rfl b2) ?_
    rintro O _ ⟨de, rfl, x, P⟩
    have b3 := ax.t x
    have Q := (((bq.up L).up N).up k).up x
    have S := (bw.up k).up x
    refine Lw.r rfl (R.bd (zs := [vB false, .slice none 0 0, .slice none 0 0, .slice none 0 0, .slice none 0 0]) (cs := [vB true, .slice none 0 0, K, M, O]) [(0, vB true), (2, K), (3, M), (4, O)] rfl rfl rfl (zaD rfl rfl (zaD Q.oc rfl (zaD S.oc rfl (zaD P.oc rfl zdN))))) (sta ((((((ak.up ar).up av).up L).up N).up k).up x) (zaa rfl (zaa rfl (zaa Q.oc (zaa S.oc (zaa P.oc zaR))))) fun df y b4 => ?_)
    have b5 := b3.t y
    refine nl ?_
    obtain ⟨dg, b6, z, b7⟩ := (Q.up y).dyeO 32
    have b8 := b5.t z
    obtain ⟨dh, b9, A, cb⟩ := ((S.up y).up z).dyeO 33
    have cc := b8.t A
    obtain ⟨di, cd, B, ce⟩ := (((P.up y).up z).up A).dyeO 34
    have cf := cc.t B
    cases hm
    rw [← cd.trans (b9.trans (b6))]
    exact Cw.ret (zlH rfl (((b4.up z).up A).up B) (Res.mk cf ⟨.slice none 0 0, K, M, O, rfl, (zm5 []).sub rfl rfl, ((b7.up A).up B).s, (cb.up B).s, ce.s⟩))
 ·refine sr (mv a rfl (mv d rfl (ca hm (fun _ => p203 (e.ul h) (C.ul h)) fun cg ch hm U => ?_)))
  have ay := h.n U
  refine Nb rfl (cn hm (fun hm => ?_) fun hm => ?_)
  ·exact sk ((ag) ⟨cg, ch, rfl, U, rfl, hm⟩)
  ·exact rg (mv a rfl (mv b rfl (ca hm (fun _ => p203 (e.ul ay) (f.ul ay)) fun ci cj hm ck => Nb rfl ((ag) ⟨ci, cj, rfl, (U.j ck).w, rfl, hm⟩))))
theorem p226 {x0 h x1 i x2 k k0 k1 k2 k3 r} (x : Rd W K [h] x0) (y : Rd W K [i] x1) (z : Rd W K [k] x2) (hm : Vm.zg7 x0 x1 x2 = some r) : Q1 226 [h, i, k] W [] fun W' v => ∃ a b d f, v = .agg [vB r.Clash, a, b, d, f].toArray ∧ Ow W' k0 [] [a] r.Lines ∧ Ow W' k1 [] [b] r.Old ∧ Ow W' k2 [] [d] r.One ∧ Ow W' k3 [] [f] r.Two :=
 zaj.adJ (J := []) (fun c => bif Nat.beq c 0 then 0 else bif Nat.beq c 31 then k0 else bif Nat.beq c 32 then k1 else bif Nat.beq c 33 then k2 else bif Nat.beq c 34 then k3 else 0) (c226 (x.view _) (y.view _) (z.view _) hm) fun _ _ ⟨a, b, d, f, e, A, B, C, D⟩ => ⟨a, b, d, f, e, A.one1.backN rfl, B.one1.backN rfl, C.one1.backN rfl, D.one1.backN rfl⟩
theorem c225 {x0 a x1 A B C D r} (N : Ow W0 2 [] [a] x0) (O : Ow W0 3 [] [A] x1.Lines) (aa : Ow W0 4 [] [B] x1.Old) (ac : Ow W0 5 [] [C] x1.One) (ae : Ow W0 6 [] [D] x1.Two) (hm : Vm.zhq x0 x1 = some r) : Q0 225 [a, .agg [vB x1.Clash, A, B, C, D].toArray] W0 fun Wf v => ∃ P, v = P ∧ OwS Wf [31] [] [P] r := by
 unfold Vm.zhq at hm
 refine zaj.of Tryz.func225 rfl rfl rfl rfl (sr (bo 7 rfl fun g1 H b E => ?_))
 have a2 := b.o
 refine Nv (.slice none 0 0) rfl (sr (mv a rfl (Lw.ln x0 (N.up b).rd rfl (Ni rfl (Cw.seq ?_)))))
 obtain ⟨ah, ai, hm⟩ := zaS hm
 refine Cw.join 8 16 [16] (fun l w => ∃ I f, CW.w f = w ∧ Le [] H f ∧ l = [vB I] ∧ ah I = some r) ?_ ?_
 ·rintro _ _ σ ⟨I, f, rfl, d, rfl, hm⟩
  rw [ai] at hm
  have Q := a2.n d
  have i := (N.up b).up d
  refine cn hm (fun hm => ?_) fun hm => ?_
  ·refine sr (mv a rfl (Nv a rfl ?_))
   obtain ⟨bp, aj, ak, am⟩ := i.dyeO 31
   have an := Q.t ak
   cases hm
   rw [← aj]
   exact Cw.ret (zhB rfl (Res.mk an ⟨a, rfl, am.s⟩))
  ·refine sk (Cw.seq ?_)
   obtain ⟨ao, ap, hm⟩ := zaS hm
   refine Cw.join 18 33 [33] (fun l w => ∃ K L, CW.w L = w ∧ Le [] f L ∧ l = [vB K] ∧ ao K = some r) ?_ ?_
   ·rintro _ _ σ ⟨K, L, rfl, e, rfl, hm⟩
    rw [ap] at hm
    have S := Q.n e
    have U := ((O.up b).up d).up e
    have V := (E.up d).up e
    refine cn hm (fun hm => ?_) fun hm => ?_
    ·refine Cw.seq (Cw.draw [] [(0, 0), (1, 0), (2, 0), (3, 0), (4, 0), (5, 0), (6, 0), (7, 0), (8, 1), (9, 0), (10, 1), (11, 3), (12, 0), (13, 0), (14, 3)] mixed (by kernel_rfl) fun bq F => ?_)
     have aq := S.n F
     have k := (i.up e).up F
     refine Dv a rfl (Di rfl (Mw.p rfl rfl (fun _ => R.sub rfl rfl) (Dv a rfl (Di rfl (Mw.p rfl rfl (fun _ => R.sub rfl rfl) ?_)))))
     obtain ⟨br, G, hm⟩ := ob hm
     refine Mw.p rfl rfl (fun _ => R.ix (α := Part) k.rd G rfl rfl rfl) (Df rfl ?_)
     obtain ⟨bu, c48, r49⟩ := (Part.at1 (k.rd.at_ G)).cell rfl
     refine Mw.q rfl rfl (fun _ c => R.ld rfl rfl (zah (Part.at1 (k.rd.at_ G)).1 rfl c48 c)) (Dfl (V.up F) rfl rfl rfl ?_)
     obtain ⟨bv, ar, W, au, av⟩ := Ow.take (α := Part) (β := List Str) (j := 8) (jf := 1) k G c48 rfl
     rw [← ar]
     have aw := aq.t W
     obtain ⟨bw, ax, hm⟩ := ob hm
     refine Mw.l rfl rfl (T.appP (α := Str) au ((U.up F).up W).rd rfl rfl ax) ?_
     rintro bz _ ⟨b0, rfl, X, ay⟩
     have az := aw.t X
     obtain ⟨b2, a0, hm⟩ := ob hm
     refine Mw.p rfl rfl (fun _ => R.ix (α := Part) k.rd a0 rfl rfl rfl) (Df rfl ?_)
     obtain ⟨b3, a1, hm⟩ := ob hm
     refine Mw.lu rfl (T.stH (α := Part) (β := List Str) (J := [8]) (av.up (X.sub (M := [8]) rfl) rfl) ay.s a1 rfl rfl rfl rfl) ?_
     rintro _ _ ⟨b4, rfl, a3, a4⟩
     have a5 := az.t a3
     refine Mw.nil (sr (mv a rfl (Nv a rfl ?_)))
     obtain ⟨b5, a6, a7, a8⟩ := a4.dyeO 31
     have a9 := a5.t a7
     cases hm
     rw [← a6]
     exact Cw.ret (zhB rfl (Res.mk a9 ⟨a, rfl, a8.s⟩))
    ·refine sk (sr (mv a rfl (la V (Lw.t rfl (T.bs 9 [.agg [vB x1.Clash, A, B, C, D].toArray] (cs := [vB x1.Clash, A, B, C, D]) rfl rfl (bsA rfl)) ?_))))
     rintro _ _ ⟨b6, b7, rfl, rfl, h, ba⟩
     have bb := S.n h
     obtain ⟨b8, bc, hm⟩ := ob hm
     refine Lw.t rfl (T.app1 (α := Part) (J := [3, 4, 5, 6]) (K' := []) ((i.up e).up h) ba (Part.own x1.Clash x1.Lines x1.Old x1.One x1.Two (U.up h).s ((((aa.up b).up d).up e).up h).s ((((ac.up b).up d).up e).up h).s ((((ae.up b).up d).up e).up h).s) rfl rfl bc) ?_
     rintro Y _ ⟨b9, rfl, be, bg⟩
     have bh := bb.t be
     refine Nv Y rfl ?_
     obtain ⟨cb, bi, bj, bk⟩ := bg.dyeO 31
     have bl := bh.t bj
     cases hm
     rw [← bi]
     exact Cw.ret (zhB rfl (Res.mk bl ⟨Y, rfl, bk.s⟩))
   ·refine rg (mi rfl (Lw.gt rfl (mb rfl (bs hm (fun x hm => ?_) fun x hm => ?_))))
    ·refine wak 3 x (fl (E.up d) rfl (Lw.r rfl (R.not rfl) (Pb x rfl (mb rfl (bs hm (fun y hm => ?_) fun y hm => ?_)))))
     ·refine wak 7 y (mv a rfl (mi rfl (Lw.sub rfl ?_)))
      obtain ⟨bm, Z, hm⟩ := ob hm
      exact Lw.r rfl (R.ix (α := Part) i.rd Z rfl rfl rfl) (Lw.fa rfl (Lw.r rfl (R.ld rfl rfl (Part.at0 (i.rd.at_ Z)).bool) (Lw.r rfl (R.not rfl) (Pb y rfl (nl ((ag) ⟨(!bm.Clash), f, rfl, Le.refl _ _, rfl, hm⟩))))))
     ·exact psk 7 y rfl (Pb y rfl (nl ((ag) ⟨false, f, rfl, Le.refl _ _, rfl, hm⟩)))
    ·exact psk 3 x rfl (Pb x rfl (mb rfl (psk 7 rfl rfl (Pb rfl rfl (nl ((ag) ⟨false, f, rfl, Le.refl _ _, rfl, hm⟩))))))
 ·refine rg (fl E rfl (Lw.r rfl (R.not rfl) (mb rfl (bs hm (fun z hm => ?_) fun z hm => ?_))))
  ·exact wak 4 z (fl E rfl (Lw.ln x1.Lines (O.up b).rd rfl (Lw.eq rfl (Pb z rfl (nl ((ag) ⟨(((x1.Lines.length : Int) : Int) == (0 : Int)), H, rfl, Le.refl _ _, rfl, hm⟩))))))
  ·exact psk 4 z rfl (Pb z rfl (nl ((ag) ⟨false, H, rfl, Le.refl _ _, rfl, hm⟩)))
theorem p225 {x0 b x1 d f h i k0 c0 c1 c2 c3 c4 r} (k : Ow W c0 [] [b] x0) (x : Ow W c1 [] [d] x1.Lines) (y : Ow W c2 [] [f] x1.Old) (z : Ow W c3 [] [h] x1.One) (A : Ow W c4 [] [i] x1.Two) (hJ : okJ K [c0, c1, c2, c3, c4] = true) (hm : Vm.zhq x0 x1 = some r) : Q1 225 [b, .agg [vB x1.Clash, d, f, h, i].toArray] W [c0, c1, c2, c3, c4] fun W' v => ∃ a, v = a ∧ Ow W' k0 [] [a] r :=
 zaj.adJ (J := [c0, c1, c2, c3, c4]) (fun c => bif Nat.beq c 0 then 0 else bif Nat.beq c 2 then c0 else bif Nat.beq c 3 then c1 else bif Nat.beq c 4 then c2 else bif Nat.beq c 5 then c3 else bif Nat.beq c 6 then c4 else bif Nat.beq c 31 then k0 else 0) (c225 (k.viewJ 0 hJ) (x.viewJ 1 hJ) (y.viewJ 2 hJ) (z.viewJ 3 hJ) (A.viewJ 4 hJ) hm) fun _ _ ⟨a, e, B⟩ => ⟨a, e, B.one1.backN rfl⟩
theorem c199 {x0 d x1 k x2 x r} (e : Rd W0 [0] [d] x0) (F : Rd W0 [0] [k] x1) (G : Rd W0 [0] [x] x2) (hm : Vm.zjr x0 x1 x2 = some r) : Q0 199 [d, k, x] W0 fun Wf v => ∃ u0, v = u0 ∧ OwS Wf LL [] [u0] r := by
 unfold Vm.zjr at hm
 refine zaj.of Tryz.func199 rfl rfl rfl rfl (sr (Nv (.slice none 0 0) rfl (sr (Lw.t rfl (T.lit0 (α := Part) 2 []) ?_))))
 rintro v1 _ ⟨W1, rfl, l1, o1⟩
 have a2 := l1.o
 refine Nv v1 rfl (sr (mv d rfl (mv k rfl (cr hm (fun _ => p224 (k0 := 3) (e.ul a2) (F.ul a2)) ?_))))
 rintro z5 dk W7 hm l7 ⟨_, rfl, bz⟩
 have a8 := a2.n l7
 refine mv k rfl (Lw.ln x1 (F.ul a8) rfl (Lw.t rfl (T.bs 4 [vI (x1.length : Int)] (cs := [vI (x1.length : Int)]) rfl rfl (bsv rfl)) ?_))
 rintro _ _ ⟨dm, dn, rfl, rfl, aj, b0⟩
 have b1 := a8.n aj
 obtain ⟨a5, b2, hm⟩ := ob hm
 refine Lw.t rfl (T.app1S (α := Int) (K' := []) (bz.up aj) b0 (rdI _) rfl rfl b2) ?_
 rintro y _ ⟨dp, rfl, a6, b3⟩
 have ak := b1.t a6
 refine Nv y rfl (sr (mv d rfl (mv x rfl (cr hm (fun _ => p224 (k0 := 5) (e.ul ak) (G.ul ak)) ?_))))
 rintro dq dr ds hm am ⟨_, rfl, b4⟩
 have a7 := ak.n am
 refine mv x rfl (Lw.ln x2 (G.ul a7) rfl (Lw.t rfl (T.bs 6 [vI (x2.length : Int)] (cs := [vI (x2.length : Int)]) rfl rfl (bsv rfl)) ?_))
 rintro _ _ ⟨dt, du, rfl, rfl, H, b5⟩
 have b6 := a7.n H
 obtain ⟨b7, b8, hm⟩ := ob hm
 refine Lw.t rfl (T.app1S (α := Int) (K' := []) (b4.up H) b5 (rdI _) rfl rfl b8) ?_
 rintro I _ ⟨a9, rfl, an, b9⟩
 have cb := b6.t an
 refine Nv I rfl (sr (Ni rfl (sr (Ni rfl (sr (Ni rfl (ssr (Ni rfl (Cw.block ?_)))))))))
 obtain ⟨cc, cd, hm⟩ := zaS hm
 refine Cw.loop 29 91 [7, 10, 11, 12, 13] (fun m l w => ∃ J L N O z a b, CW.w b = w ∧ Le [2, 7, 8, 9, 10, 11, 12, 13, 14, 15, 16] a9 b ∧ l = [a, vI L, vI N, vI O, vI z] ∧ Ow b 2 [] [a] J ∧ Vm.zdV x0 x1 x2 a5 b7 cc m J L N O z = some r) _ ⟨([] : List Part), 0, 0, 0, 0, v1, a9, rfl, Le.refl _ _, rfl, ((((((o1.up l7).up aj).up a6).up am).up H).up an), hm⟩ ?_
 rintro (_ | dv) _ _ σ ⟨J, L, N, O, z, a, b, rfl, P, rfl, ao, hm⟩
 ·cases hm
 unfold Vm.zdV at hm
 have ba := cb.t P
 have Q := (((b3.up am).up H).up an).up P
 have ap := b9.up P
 refine ssr (mi rfl (mv y rfl (Lw.ln a5 Q.rd rfl (Lw.lt rfl (nl (cn hm (fun hm => ?_) fun hm => ?_))))))
 ·refine sk ?_
  obtain ⟨ce, cf, hm⟩ := zaS hm
  refine Cw.join 35 91 [7, 10, 11, 12] (fun l w => ∃ S U V X Y A, CW.w A = w ∧ Le [2, 7, 8, 9, 10, 11, 12, 13, 14, 15, 16] b A ∧ l = [Y, vI U, vI V, vI X] ∧ Ow A 2 [] [Y] S ∧ ce S U V X = some r) ?_ ?_
  ·rintro _ _ σ ⟨S, U, V, X, Y, A, rfl, cg, rfl, ch, hm⟩
   rw [cf] at hm
   exact rg (mi rfl (Lw.add rfl (Ni rfl ((agm) ⟨S, U, V, X, w64 (z + 1), Y, A, rfl, (P.j cg).w, rfl, ch, hm⟩))))
  ·refine Cw.block (Cw.seq ?_)
   obtain ⟨ci, cj, hm⟩ := zaS hm
   refine Cw.join 35 46 [46] (fun l w => ∃ aq Z, CW.w Z = w ∧ Le [] b Z ∧ l = [vB aq] ∧ ci aq = some r) ?_ ?_
   ·rintro _ _ σ ⟨aq, Z, rfl, f, rfl, hm⟩
    rw [cj] at hm
    have ck := ba.n f
    refine cn hm (fun hm => ?_) fun hm => ?_
    ·exact Cw.exit ((ag) ⟨J, L, N, O, a, Z, rfl, f.w, rfl, (ao.up f), hm⟩)
    ·refine sk (Cw.seq (Cw.draw [2, 7, 8, 9, 10] [(0, 0), (1, 0), (2, 0), (3, 0), (4, 0), (5, 0), (6, 0), (7, 0), (8, 0), (9, 0), (10, 1), (11, 0), (12, 0), (13, 0), (14, 0), (15, 0), (16, 0), (17, 1), (18, 0), (19, 3), (20, 2), (21, 0)] mixed (by kernel_rfl) fun dw B => ?_))
     have h := ck.n B
     have aa := (Q.up f).up B
     have ac := (ap.up f).up B
     refine Dv a rfl (Dv d rfl (Di rfl (Di rfl ?_)))
     obtain ⟨dx, bb, hm⟩ := ob hm
     have r95 := (e.ul h).cutV bb
     refine Mw.p rfl rfl (fun _ => R.sl (e.ul h) bb rfl (.inr rfl) (.inr rfl)) (Dv k rfl (Di rfl (Dv y rfl (Di rfl ?_))))
     obtain ⟨dy, ar, hm⟩ := ob hm
     refine Mw.p rfl rfl (fun _ => R.ix (α := Int) aa.rd ar rfl rfl rfl) (Mw.q rfl rfl (fun _ c => R.ld rfl rfl (zah (aa.rd.at_ ar).1 rfl (aa.rd.at_ ar).int c)) ?_)
     obtain ⟨dz, bc, hm⟩ := ob hm
     have r102 := (F.ul h).cutV bc
     refine Mw.p rfl rfl (fun _ => R.sl (F.ul h) bc rfl (.inr rfl) (.inr rfl)) (Dv x rfl (Di rfl (Dv I rfl (Di rfl ?_))))
     obtain ⟨d0, au, hm⟩ := ob hm
     refine Mw.p rfl rfl (fun _ => R.ix (α := Int) ac.rd au rfl rfl rfl) (Mw.q rfl rfl (fun _ c => R.ld rfl rfl (zah (ac.rd.at_ au).1 rfl (ac.rd.at_ au).int c)) ?_)
     obtain ⟨d1, be, hm⟩ := ob hm
     have r109 := (G.ul h).cutV be
     refine Mw.p rfl rfl (fun _ => R.sl (G.ul h) be rfl (.inr rfl) (.inr rfl)) ?_
     obtain ⟨C, cl, hm⟩ := ob hm
     refine Mw.l rfl rfl (T.call rfl (p226 (k0 := 7) (k1 := 8) (k2 := 9) (k3 := 10) r95 r102 r109 cl)) ?_
     rintro _ _ ⟨d2, rfl, i, ⟨d3, d4, d5, d6, rfl, cm, co, cp, cq⟩⟩
     have ct := h.n i
     obtain ⟨cu, cv, hm⟩ := ob hm
     refine Mw.t rfl rfl (T.call rfl (p225 (K := [0]) (k0 := 11) (c0 := 2) (c1 := 7) (c2 := 8) (c3 := 9) (c4 := 10) (x1 := (Vm.Part.mk C.Clash C.Lines C.Old C.One C.Two)) (((ao.up f).up B).up i) cm co cp cq rfl cv)) ?_
     rintro av _ ⟨aw, rfl, D, ⟨_, rfl, bg⟩⟩
     have ax := ct.t D
     refine ⟨⟨_, rfl, ((i.sub (M := [2, 7, 8, 9, 10]) rfl).trans (D.sub (M := [2, 7, 8, 9, 10]) rfl))⟩, ?_⟩
     refine Hv av rfl (Mw.nil ?_)
     obtain ⟨cw, cx, hm⟩ := zaS hm
     refine Cw.join 68 79 [7] (fun l w => ∃ ae af ah, CW.w ah = w ∧ Le [11, 12, 13, 14, 15, 16] aw ah ∧ l = [af] ∧ Ow ah 11 [] [af] ae ∧ cw ae = some r) ?_ ?_
     ·rintro _ _ σ ⟨ae, af, ah, rfl, ay, rfl, cy, hm⟩
      rw [cx] at hm
      have bh := ((aa.up i).up D).up ay
      have bi := ((ac.up i).up D).up ay
      refine sr (mi rfl (Lw.add rfl (Ni rfl (sr (mv y rfl (mi rfl ?_))))))
      obtain ⟨cz, bj, hm⟩ := ob hm
      refine Lw.r rfl (R.ix (α := Int) bh.rd bj rfl rfl rfl) (Lw.r rfl (R.ld rfl rfl (bh.rd.at_ bj).int) (Lw.add rfl (Ni rfl (rg (mv I rfl (mi rfl ?_))))))
      obtain ⟨c5, bk, hm⟩ := ob hm
      refine Lw.r rfl (R.ix (α := Int) bi.rd bk rfl rfl rfl) (Lw.r rfl (R.ld rfl rfl (bi.rd.at_ bk).int) (Lw.add rfl (Ni rfl ?_)))
      obtain ⟨c6, c7, c8, c9⟩ := cy.dyeO 2
      exact (ag) ⟨ae, w64 (z + 1), w64 (cz + 1), w64 (c5 + 1), af, c6, c7, (((((f.j B).j i).j D).j ay).j c8).w, rfl, c9, hm⟩
     ·refine sr (mi rfl (mv d rfl (Lw.ln x0 (e.ul ax) rfl (Lw.lt rfl (nl (cn hm (fun hm => ?_) fun hm => ?_))))))
      ·refine rg (mv av rfl (mv d rfl (mi rfl ?_)))
       obtain ⟨az, bl, hm⟩ := ob hm
       refine Lw.r rfl (R.ix (α := Str) (e.ul ax) bl rfl rfl rfl) (Lw.r rfl (R.ld rfl rfl ((e.ul ax).at_ bl).str) (Lw.t rfl (T.bsS (α := Str) (xs := [az]) 12 [] (W := aw) [vS az] (Each.cons ((rdS _)) Each.nil) rfl) ?_))
       rintro bm _ ⟨d7, rfl, bn, bp⟩
       refine Lw.r rfl (R.bd (zs := [vB false, .slice none 0 0, .slice none 0 0, .slice none 0 0, .slice none 0 0]) (cs := [vB false, bm, .slice none 0 0, .slice none 0 0, .slice none 0 0]) [(1, bm)] rfl rfl rfl (zaD bp.oc rfl zdN)) (cr hm (fun _ => p225 (K := [0]) (k0 := 16) (c0 := 11) (c1 := 12) (c2 := 13) (c3 := 14) (c4 := 15) (x1 := (Vm.Part.mk false ([az] : List Str) ([] : List Str) ([] : List Str) ([] : List Str))) (bg.up bn) bp (owN 13 []) (owN 14 []) (owN 15 []) rfl) ?_)
       rintro da bq d8 hm db ⟨_, rfl, dc⟩
       refine Nv bq rfl ?_
       obtain ⟨dd, de, df, dg⟩ := dc.dyeO 11
       exact (ag) ⟨da, bq, dd, de, ((bn.j db).j df).w, rfl, dg, hm⟩
      ·exact sk ((ag) ⟨cu, av, aw, rfl, Le.refl _ _, rfl, bg, hm⟩)
   ·refine rg (mv y rfl (mi rfl ?_))
    obtain ⟨d9, br, hm⟩ := ob hm
    refine Lw.r rfl (R.ix (α := Int) Q.rd br rfl rfl rfl) (Lw.r rfl (R.ld rfl rfl (Q.rd.at_ br).int) (Lw.lt rfl (mb rfl (bs hm (fun E hm => ?_) fun E hm => ?_))))
    ·exact psk 5 E rfl (Pb E rfl (nl ((ag) ⟨true, b, rfl, Le.refl _ _, rfl, hm⟩)))
    ·refine wak 5 E (mv I rfl (mi rfl ?_))
     obtain ⟨dh, bu, hm⟩ := ob hm
     exact Lw.r rfl (R.ix (α := Int) ap.rd bu rfl rfl rfl) (Lw.r rfl (R.ld rfl rfl (ap.rd.at_ bu).int) (Lw.lt rfl (Pb E rfl (nl ((ag) ⟨decide ((dh : Int) < (0 : Int)), b, rfl, Le.refl _ _, rfl, hm⟩)))))
 ·refine Cw.exit ?_
  rw [cd] at hm
  refine sr (mv a rfl (Nv a rfl ?_))
  cases hm
  exact Cw.ret (zhB rfl (Res.mk ba ⟨a, rfl, ao.s.sub rfl rfl⟩))
theorem p199 {x0 b x1 d x2 f k0 r} (h : Rd W K [b] x0) (i : Rd W K [d] x1) (k : Rd W K [f] x2) (hm : Vm.zjr x0 x1 x2 = some r) : Q1 199 [b, d, f] W [] fun W' v => ∃ a, v = a ∧ Ow W' k0 [] [a] r :=
 (c199 (h.view _) (i.view _) (k.view _) hm).ad (fk k0) fun _ _ ⟨a, e, x⟩ => ⟨a, e, x.back (zfR _)⟩
theorem c198 {x0 b r} (L : Rd W0 [0] [b] x0) (hm : Vm.zg8 x0 = some r) : Q0 198 [b] W0 fun Wf v => ∃ A, v = .tuple [A, vB r.2].toArray ∧ OwS Wf LL [] [A] r.1 := by
 unfold Vm.zg8 at hm
 refine zaj.of Tryz.func198 rfl rfl rfl rfl (sr (Gv (.slice none 0 0) rfl (Nb rfl (sr (Lw.t rfl (T.lit0 (α := Str) 2 []) ?_)))))
 rintro B _ ⟨C, rfl, M, N⟩
 have O := M.o
 refine Nv B rfl (ssr (Ni rfl (Cw.block ?_)))
 obtain ⟨P, Q, hm⟩ := zaS hm
 refine Cw.loop 7 24 [2, 3, 4, 5] (fun m l w => ∃ f h x i k a d, CW.w d = w ∧ Le [2] C d ∧ l = [k, vB h, a, vI i] ∧ Ow d 3 [] [k] f ∧ Ow d 2 [] [a] x ∧ Vm.zdE x0 P m f h x i = some r) _ ⟨([] : List Str), false, ([] : List Str), 0, .slice none 0 0, B, C, rfl, Le.refl _ _, rfl, owN 3 [], N, hm⟩ ?_
 rintro (_ | Y) _ _ σ ⟨f, h, x, i, k, a, d, rfl, D, rfl, S, y, hm⟩
 ·cases hm
 unfold Vm.zdE at hm
 have z := O.t D
 refine ssr ?_
 have e := L.ul z
 refine mi rfl (mv b rfl (Lw.ln x0 e rfl (Lw.lt rfl (nl (cn hm (fun hm => ?_) fun hm => ?_)))))
 ·refine sk (Cw.seq (Cw.block (ssr (mv b rfl (mi rfl ?_)))))
  obtain ⟨Z, E, hm⟩ := ob hm
  refine Lw.r rfl (R.ix (α := Part) e E rfl rfl rfl) (Lw.fa rfl (Lw.r rfl (R.ld rfl rfl (Part.at0 (e.at_ E)).bool) (nl (cn hm (fun hm => ?_) fun hm => ?_))))
  ·refine sr (Gv (.slice none 0 0) rfl (Nb rfl ?_))
   cases hm
   exact Cw.ret (zoI rfl rfl (Res.mk z ⟨.slice none 0 0, rfl, (zm5 []).sub rfl rfl⟩))
  ·refine sk (rg (mv a rfl (mv b rfl (mi rfl ?_))))
   obtain ⟨aa, F, hm⟩ := ob hm
   refine Lw.r rfl (R.ix (α := Part) e F rfl rfl rfl) (Lw.fa rfl ?_)
   obtain ⟨ac, c23, r24⟩ := (Part.at1 (e.at_ F)).cell rfl
   refine Lw.r rfl (R.ld rfl rfl c23) ?_
   obtain ⟨U, V, hm⟩ := ob hm
   refine Lw.t rfl (T.appP (α := Str) y r24 rfl rfl V) ?_
   rintro G _ ⟨W, rfl, H, X⟩
   exact Nv G rfl (rg (mi rfl (Lw.add rfl (Ni rfl ((agm) ⟨f, h, U, w64 (i + 1), k, G, W, rfl, (D.j H).w, rfl, (S.up H), X, hm⟩)))))
 ·refine Cw.exit ?_
  rw [Q] at hm
  refine ssr (mv a rfl (ca hm (fun _ => p166 (K := [2]) y.rd) fun ae af hm I => ?_))
  have J := z.n I
  refine Lw.r rfl (R.not rfl) (nl (cn hm (fun hm => ?_) fun hm => ?_))
  ·refine sr (Gv (.slice none 0 0) rfl (Nb rfl ?_))
   cases hm
   exact Cw.ret (zoI rfl rfl (Res.mk J ⟨.slice none 0 0, rfl, (zm5 []).sub rfl rfl⟩))
  ·refine sk (sr (mv a rfl (Gv a rfl (Nb rfl ?_))))
   cases hm
   exact Cw.ret (zoI rfl rfl (Res.mk J ⟨a, rfl, (y.up I).s.sub rfl rfl⟩))
theorem p198 {x0 b k0 r} (d : Rd W K [b] x0) (hm : Vm.zg8 x0 = some r) : Q1 198 [b] W [] fun W' v => ∃ a, v = .tuple [a, vB r.2].toArray ∧ Ow W' k0 [] [a] r.1 :=
 (c198 (d.view _) hm).ad (fk k0) fun _ _ ⟨a, e, f⟩ => ⟨a, e, f.back (zfR _)⟩
end Go.Sx
