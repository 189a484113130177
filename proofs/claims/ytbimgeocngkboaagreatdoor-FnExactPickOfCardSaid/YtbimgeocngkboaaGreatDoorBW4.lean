/- Walks: each function answers as its model, printed by a program of ours. Conditions: the arguments read as they are given. -/
import Derived.Test.YtbimgeocngkboaaGreatDoorBTs
import Derived.Test.YtbimgeocngkboaaGreatDoorBM0
import Derived.Test.YtbimgeocngkboaaGreatDoorBW3
import Derived.Test.YtbimgeocngkboaaGreatDoorBE
namespace Go.Sx
open Go Go.Proofs Go.Vm Rp
set_option linter.unusedVariables false
set_option linter.unusedSimpArgs false
variable {W W0 : CW} {K : List Nat}
theorem c56 {x0 Z aa r} (h0 : Rd W0 [0] [Z, aa] x0) (hm : Vm.impl_Repo_own x0 = some r) : Q0 56 [.agg [Z, aa].toArray] W0 fun Wf v => ∃ ac ae, v = .agg [ac, ae].toArray ∧ OwS Wf [31] [] [ac] r.Commits ∧ OwS Wf [32] [] [ae] r.Heads := by
 unfold Vm.impl_Repo_own at hm
 obtain ⟨cl, cm, af, H, az⟩ := Repo.split h0
 simp only [List.cons.injEq, and_true, true_and] at af
 obtain ⟨rfl, rfl⟩ := af
 refine CallR.of Tryz.func56 rfl rfl rfl rfl (sr (bo 2 rfl fun g1 W1 l1 b1 => ?_))
 have a2 := l1.o
 refine al 3 [.slice none 0 0, .slice none 0 0] fun g3 W3 l3 b3 => ?_
 have a4 := a2.n l3
 refine nl (sr (Lw.t rfl (T.lit0 (α := Head) 4 []) ?_))
 rintro v6 _ ⟨W6, rfl, I, o6⟩
 have a7 := a4.n I
 have b8 := (b1.up l3).up I
 refine fl b8 rfl ?_
 obtain ⟨a9, ba, hm⟩ := ob hm
 refine Lw.t rfl (T.appP (α := Head) o6 (az.ul a7) rfl rfl ba) ?_
 rintro K _ ⟨cw, rfl, L, M⟩
 have bb := a7.t L
 refine Lw.r rfl (R.bd (zs := [.slice none 0 0, .slice none 0 0]) (cs := [.slice none 0 0, K]) [(1, K)] rfl rfl rfl (bp_cons M.oc rfl bp_nil)) (al 5 [.slice none 0 0, .slice none 0 0] fun bc cx i be => ?_)
 have bg := bb.n i
 refine sta be (oc_cons rfl (oc_cons (M.up i).oc oc_nil)) fun ak A bh => ?_
 have am := bg.t A
 refine nl (ssr (fl (((b8.up L).up i).up A) rfl (Lw.ln x0.Commits (H.ul am) rfl (mi rfl (nl (Cw.block ?_))))))
 obtain ⟨bi, bj, hm⟩ := jn_e hm
 refine Cw.loop 14 33 [5, 14] (fun m l w => ∃ B N C an D k b, CW.w b = w ∧ Le [5, 6, 7, 8, 9] ak b ∧ l = [an, vI B] ∧ Ow b 6 [] [D] N ∧ Ow b 4 [] [k] C ∧ Bx b 5 bc [D, k] ∧ Vm.impl_Repo_own_l1 x0 bi m B N C = some r) _ ⟨0, ([] : List Commit), a9, undef, .slice none 0 0, K, ak, rfl, Le.refl _ _, rfl, owN 6 [], ((M.up i).up A), bh, hm⟩ ?_
 rintro (_ | cy) _ _ σ ⟨B, N, C, an, D, k, b, rfl, O, rfl, P, Q, ao, hm⟩
 ·cases hm
 unfold Vm.impl_Repo_own_l1 at hm
 have S := am.t O
 refine sr (Lw.lt rfl (nl (Cw.seq (cn hm (fun hm => ?_) fun hm => ?_))))
 ·refine sk (Cw.seq (Cw.block (sr ?_)))
  obtain ⟨x, ap, hm⟩ := ob hm
  refine Lw.r rfl (R.ix (α := Commit) (H.ul S) ap rfl rfl rfl) ?_
  obtain ⟨x47, c48, _, r49⟩ := ((H.ul S).at_ ap).cells
  obtain ⟨cz, c0, rfl, r51, r53⟩ := Commit.split r49
  refine Lw.r rfl (R.lda c48 rfl rfl) (al 7 [.slice none 0 0, vS ([] : Str), .slice none 0 0] fun bk c1 y bl => ?_)
  have bm := y.o
  refine sta bl (oc_cons r51.oc (oc_cons rfl (oc_cons r53.oc oc_nil))) fun c2 z bn => ?_
  have bp := bm.t z
  refine nl (Cw.draw [6, 8, 9] [(0, 0), (1, 1), (3, 0), (4, 1), (6, 0), (7, 1), (8, 0), (9, 1), (2, 2), (5, 2), (10, 2), (11, 0), (12, 2), (13, 2), (14, 0), (15, 3)] mixed (by kernel_rfl) fun c3 d => ?_)
  have bq := bp.n d
  have aq := ((ao.up y).up z).up d
  have U := bn.up d
  refine Dfl aq rfl rfl rfl (Dfl U rfl rfl rfl (Dfl U rfl rfl rfl (Dfl U rfl rfl rfl (Mw.t rfl rfl (T.lit0 (α := Int) 8 []) ?_))))
  rintro c4 _ ⟨c5, rfl, e, br⟩
  have ar := bq.n e
  refine m0 e fun bu => ?_
  obtain ⟨bv, bw, hm⟩ := ob hm
  refine Mw.t rfl rfl (T.appP (α := Int) br (r51.ul ar) rfl rfl bw) ?_
  rintro E _ ⟨c6, rfl, f, au⟩
  have bz := ar.t f
  refine mc bu f fun b0 => Dc hm b0 (fun _ => p87 (k0 := 9) (r53.ul bz)) rfl ?_
  rintro b2 F c7 hm h ⟨_, rfl, av⟩ b4
  refine Mw.p rfl rfl (fun _ => R.bd (zs := [.slice none 0 0, vS ([] : Str), .slice none 0 0]) (cs := [E, vS x.Who, F]) [(0, E), (1, vS x.Who), (2, F)] rfl rfl rfl (bp_cons (au.up h).oc rfl (bp_cons rfl rfl (bp_cons av.oc rfl bp_nil)))) (Mw.t rfl rfl (T.bs 10 [.agg [E, vS x.Who, F].toArray] (cs := [E, vS x.Who, F]) rfl rfl (bsA rfl)) ?_)
  rintro _ _ ⟨c8, c9, rfl, rfl, a, b5⟩
  refine mc b4 a fun b6 => ?_
  obtain ⟨b7, b9, hm⟩ := ob hm
  refine Mw.t rfl rfl (T.app1 (α := Commit) (J := [8, 9]) (K' := []) (((((((P.up y).up z).up d).up e).up f).up h).up a) b5 (Commit.own bv x.Who b2 ((au.up h).up a).s (av.up a).s) rfl rfl b9) ?_
  rintro aw _ ⟨da, rfl, G, ax⟩
  refine mc b6 G fun db => Df rfl (Mw.lu rfl (T.st (j := 0) (v := aw) (((((aq.up e).up f).up h).up a).up G) rfl rfl ax.oc rfl rfl) ?_)
  rintro _ _ ⟨cb, rfl, V, cc⟩
  exact Mw.nil (rg (Lw.add rfl (mi rfl (nl ((agm) ⟨w64 (B + 1), b7, C, ptr (bx bk), aw, k, cb, rfl, (((((((((O.j y).j z).j d).j e).j f).j h).j a).j G).j V).w, rfl, (ax.up V), (((((((((Q.up y).up z).up d).up e).up f).up h).up a).up G).up V), cc, hm⟩)))))
 ·refine Cw.exit ?_
  rw [bj] at hm
  refine sr (la ao (sta (((((b3.up I).up L).up i).up A).up O) (oc_cons P.oc (oc_cons Q.oc oc_nil)) fun dc W cd => ?_))
  have ce := S.t W
  refine nl ?_
  obtain ⟨dd, cf, X, cg⟩ := (P.up W).dyeO 31
  have ch := ce.t X
  obtain ⟨de, ci, Y, cj⟩ := ((Q.up W).up X).dyeO 32
  have ck := ch.t Y
  cases hm
  rw [← ci.trans (cf)]
  exact Cw.ret (retA1 rfl ((cd.up X).up Y) (Res.mk ck ⟨D, k, rfl, (cg.up Y).s, cj.s⟩))
theorem p56 {x0 d f k0 k1 r} (h : Rd W K [d, f] x0) (hm : Vm.impl_Repo_own x0 = some r) : Q1 56 [.agg [d, f].toArray] W [] fun W' v => ∃ a b, v = .agg [a, b].toArray ∧ Ow W' k0 [] [a] r.Commits ∧ Ow W' k1 [] [b] r.Heads :=
 CallR.adJ (J := []) (fun c => bif Nat.beq c 0 then 0 else bif Nat.beq c 31 then k0 else bif Nat.beq c 32 then k1 else 0) (c56 (h.view _) hm) fun _ _ ⟨a, b, e, i, k⟩ => ⟨a, b, e, i.one1.backN rfl, k.one1.backN rfl⟩
theorem c71 {x0 d e x1 r} (y : Rd W0 [0] [d, e] x0) (hm : Vm.impl_Repo_first x0 x1 = some r) : Q0 71 [.agg [d, e].toArray, vI x1] W0 fun Wf v => v = vI r := by
 unfold Vm.impl_Repo_first at hm
 obtain ⟨C, D, f, z, E⟩ := Repo.split y
 simp only [List.cons.injEq, and_true, true_and] at f
 obtain ⟨rfl, rfl⟩ := f
 refine CallR.of Tryz.func71 rfl rfl rfl rfl (sr (bo 2 rfl fun F G A h => ?_))
 have b := A.o
 refine Ni rfl (ssr (fl h rfl (mi rfl ?_)))
 obtain ⟨B, i, hm⟩ := ob hm
 have a := z.ul b
 refine Lw.r rfl (R.ix (α := Commit) a i rfl rfl rfl) (Lw.fa rfl ?_)
 obtain ⟨H, c7, r8⟩ := (Commit.at0 (a.at_ i)).cell rfl
 refine Lw.r rfl (R.ld rfl rfl c7) (Lw.ln B.Parents r8 rfl (Lw.eq rfl (nl (cn hm (fun hm => ?_) fun hm => ?_))))
 ·exact sr (Ni rfl (.ret (rt hm b)))
 ·refine sk (sr (fl h rfl (mi rfl ?_)))
  obtain ⟨I, k, hm⟩ := ob hm
  refine Lw.r rfl (R.ix (α := Commit) a k rfl rfl rfl) (Lw.fa rfl ?_)
  obtain ⟨J, c13, r14⟩ := (Commit.at0 (a.at_ k)).cell rfl
  refine Lw.r rfl (R.ld rfl rfl c13) ?_
  obtain ⟨K, x, hm⟩ := ob hm
  exact Lw.r rfl (R.ix (α := Int) r14 x rfl rfl rfl) (Lw.r rfl (R.ld rfl rfl (r14.at_ x).int) (Ni rfl (.ret (rt hm b))))
theorem p71 {x0 a b x1 r} (d : Rd W K [a, b] x0) (hm : Vm.impl_Repo_first x0 x1 = some r) : Q1 71 [.agg [a, b].toArray, vI x1] W [] fun W' v => v = vI r :=
 (c71 (d.view _) hm).ad (fk 0) fun _ _ e => e
theorem c61 {x0 b d x1 r} (x : Rd W0 [0] [b, d] x0) (hm : Vm.impl_Repo_tree x0 x1 = some r) : Q0 61 [.agg [b, d].toArray, vI x1] W0 fun Wf v => ∃ e, v = e ∧ Rd Wf [0] [e] r := by
 unfold Vm.impl_Repo_tree at hm
 obtain ⟨A, B, f, h, C⟩ := Repo.split x
 simp only [List.cons.injEq, and_true, true_and] at f
 obtain ⟨rfl, rfl⟩ := f
 refine CallR.of Tryz.func61 rfl rfl rfl rfl (sr (bo 2 rfl fun D E y z => ?_))
 have a := y.o
 refine Nv (.slice none 0 0) rfl (ssr (mi rfl (Lw.lt rfl (nl (cn hm (fun hm => ?_) fun hm => ?_)))))
 ·refine sr (Nv (.slice none 0 0) rfl ?_)
  cases hm
  exact Cw.ret (ret1 rfl (Res.mk a ⟨.slice none 0 0, rfl, (rdN (K := [0]))⟩))
 ·refine sk (sr (fl z rfl (mi rfl ?_)))
  obtain ⟨F, i, hm⟩ := ob hm
  refine Lw.r rfl (R.ix (α := Commit) (h.ul a) i rfl rfl rfl) (Lw.fa rfl ?_)
  obtain ⟨k, c8, r9⟩ := (Commit.at2 ((h.ul a).at_ i)).cell rfl
  refine Lw.r rfl (R.ld rfl rfl c8) (Nv k rfl ?_)
  cases hm
  exact Cw.ret (ret1 rfl (Res.mk a ⟨k, rfl, r9⟩))
theorem p61 {x0 b d x1 r} (f : Rd W K [b, d] x0) (hm : Vm.impl_Repo_tree x0 x1 = some r) : Q1 61 [.agg [b, d].toArray, vI x1] W [] fun W' v => ∃ a, v = a ∧ Rd W' (0 :: K) [a] r :=
 (c61 (f.view _) hm).ad (fk 0) fun _ _ ⟨a, e, h⟩ => ⟨a, e, h.back rfl⟩
theorem c89 {x0 e x1 f x2 h r} (B : Rd W0 [0] [e] x0) (C : Rd W0 [0] [f] x1) (D : Rd W0 [0] [h] x2) (i : Gl 0 W0 [0]) (hm : Vm.impl_areTrees x0 x1 x2 = some r) : Q0 89 [e, f, h] W0 fun Wf v => v = vB r := by
 unfold Vm.impl_areTrees at hm
 refine CallR.of Tryz.func89 rfl rfl rfl rfl (sr (Nb rfl ?_))
 obtain ⟨E, F, hm⟩ := jn_e hm
 refine Cw.join 7 16 [6] (fun l w => ∃ k x, CW.w x = w ∧ Le [] W0 x ∧ l = [vB k] ∧ E k = some r) ?_ ?_
 ·rintro _ _ σ ⟨k, x, rfl, G, rfl, hm⟩
  rw [F] at hm
  have H := G.o
  exact .ret (rt hm H)
 ·refine rg (mv e rfl (ca hm (fun _ => p51 B i) fun N I hm d => ?_))
  have y := d.o
  refine mb rfl (bs hm (fun a hm => ?_) fun a hm => ?_)
  ·refine wak 2 a (mv f rfl (ca hm (fun _ => p51 (C.ul y) (i.ul y)) fun O J hm z => ?_))
   have A := y.n z
   refine Pb a rfl (mb rfl (bs hm (fun b hm => ?_) fun b hm => ?_))
   ·exact wak 2 b (mv h rfl (ca hm (fun _ => p51 (D.ul A) (i.ul A)) fun K L hm M => Pb b rfl (Nb rfl ((ag) ⟨K, L, rfl, ((d.j z).j M).w, rfl, hm⟩))))
   ·exact psk 2 b rfl (Pb b rfl (Nb rfl ((ag) ⟨false, J, rfl, (d.j z).w, rfl, hm⟩)))
  ·exact psk 2 a rfl (Pb a rfl (mb rfl (psk 2 rfl rfl (Pb rfl rfl (Nb rfl ((ag) ⟨false, I, rfl, d, rfl, hm⟩))))))
theorem p89 {x0 a x1 b x2 d r} (f : Rd W K [a] x0) (h : Rd W K [b] x1) (i : Rd W K [d] x2) (k : Gl 0 W K) (hm : Vm.impl_areTrees x0 x1 x2 = some r) : Q1 89 [a, b, d] W [] fun W' v => v = vB r :=
 (c89 (f.view _) (h.view _) (i.view _) (k.view _) hm).ad (fk 0) fun _ _ e => e
theorem c107 {x0 x r} (y : Rd W0 [0] [x] x0) (hm : Vm.impl_allPaths x0 = some r) : Q0 107 [x] W0 fun Wf v => ∃ E, v = E ∧ OwS Wf LL [] [E] r := by
 unfold Vm.impl_allPaths at hm
 refine CallR.of Tryz.func107 rfl rfl rfl rfl (sr (Nv (.slice none 0 0) rfl (sr (Nv (.slice none 0 0) rfl (ssr (mv x rfl (Lw.ln x0 y rfl (mi rfl (nl (Cw.block ?_))))))))))
 obtain ⟨W, X, hm⟩ := jn_e hm
 refine Cw.loop 10 26 [3, 5, 7, 10] (fun m l w => ∃ f h a F z b, CW.w b = w ∧ Le [2, 3] W0 b ∧ l = [a, F, z, vI h] ∧ Ow b 2 [] [a] f ∧ Vm.impl_allPaths_l1 x0 W m f h = some r) _ ⟨([] : List Str), 0, .slice none 0 0, undef, undef, W0, rfl, Le.refl _ _, rfl, owN 2 [], hm⟩ ?_
 rintro (_ | m9) _ _ σ ⟨f, h, a, F, z, b, rfl, G, rfl, H, hm⟩
 ·cases hm
 unfold Vm.impl_allPaths_l1 at hm
 have A := G.s
 refine sr (Lw.lt rfl (nl (Cw.seq (cn hm (fun hm => ?_) fun hm => ?_))))
 ·refine sk (Cw.seq (Cw.block (sr ?_)))
  obtain ⟨I, J, hm⟩ := ob hm
  refine Lw.r rfl (R.ix (α := List File) (y.ul A) J rfl rfl rfl) ?_
  obtain ⟨B, c16, r17⟩ := ((y.ul A).at_ J).cell rfl
  refine Lw.r rfl (R.ld rfl rfl c16) (Nv B rfl (sr (mv B rfl (Lw.ln I r17 rfl (mi rfl (nl (Cw.block ?_)))))))
  obtain ⟨Y, Z, hm⟩ := jn_e hm
  refine Cw.loop 16 25 [3, 7, 16] (fun m l w => ∃ i k d C e, CW.w e = w ∧ Le [2, 3] b e ∧ l = [d, C, vI k] ∧ Ow e 2 [] [d] i ∧ Vm.impl_allPaths_l2 I Y m i k = some r) _ ⟨f, 0, a, z, b, rfl, Le.refl _ _, rfl, H, hm⟩ ?_
  rintro (_ | aw) _ _ σ ⟨i, k, d, C, e, rfl, D, rfl, L, hm⟩
  ·cases hm
  unfold Vm.impl_allPaths_l2 at hm
  have M := D.s
  refine sr (Lw.lt rfl (nl (Cw.seq (cn hm (fun hm => ?_) fun hm => ?_))))
  ·refine sk (Cw.seq (Cw.block (sr ?_)))
   obtain ⟨N, O, hm⟩ := ob hm
   refine Lw.r rfl (R.ix (α := File) (r17.ul M) O rfl rfl rfl) ?_
   obtain ⟨x31, c32, _, r33⟩ := ((r17.ul M).at_ O).cells
   obtain ⟨ax, rfl, r35⟩ := File.split r33
   refine Lw.r rfl (R.lda c32 rfl rfl) (al 3 [vS ([] : Str), .slice none 0 0] fun aa ay P ac => sta ac (oc_cons rfl (oc_cons r35.oc oc_nil)) fun az Q ae => nl (rg (mv d rfl (fl ae rfl (Lw.t rfl (T.bs 4 [vS N.Path] (cs := [vS N.Path]) rfl rfl (bsv rfl)) ?_)))))
   rintro _ _ ⟨a0, a1, rfl, rfl, S, af⟩
   obtain ⟨ah, ai, hm⟩ := ob hm
   refine Lw.t rfl (T.app1S (α := Str) (K' := []) (((L.up P).up Q).up S) af (rdS _) rfl rfl ai) ?_
   rintro U _ ⟨aj, rfl, ak, am⟩
   exact Nv U rfl (rg (Lw.add rfl (mi rfl (nl ((agm) ⟨ah, w64 (k + 1), U, ptr (bx aa), aj, rfl, ((((D.j P).j Q).j S).j ak).w, rfl, am, hm⟩)))))
  ·refine Cw.exit ?_
   rw [Z] at hm
   exact rg (Lw.add rfl (mi rfl (nl ((agm) ⟨i, w64 (h + 1), d, B, C, e, rfl, (G.j D).w, rfl, L, hm⟩))))
 ·refine Cw.exit ?_
  rw [X] at hm
  refine sr (mv a rfl (cr hm (fun _ => p124 (K := [0]) (c0 := 2) H rfl) ?_))
  rintro a2 _ a3 hm an ⟨rfl, ao⟩
  have ap := A.t an
  refine nl (sr (mv a rfl (cr hm (fun _ => p125 (K := [0]) (k0 := 5) (c0 := 2) ao rfl) ?_)))
  rintro a4 V a5 hm aq ⟨_, rfl, ar⟩
  have au := ap.t aq
  refine Nv V rfl ?_
  cases hm
  exact Cw.ret (ret1 rfl (Res.mk au ⟨V, rfl, ar.s.sub rfl rfl⟩))
theorem p107 {x0 b k0 r} (d : Rd W K [b] x0) (hm : Vm.impl_allPaths x0 = some r) : Q1 107 [b] W [] fun W' v => ∃ a, v = a ∧ Ow W' k0 [] [a] r :=
 (c107 (d.view _) hm).ad (fk k0) fun _ _ ⟨a, e, f⟩ => ⟨a, e, f.back (fk_LL _)⟩
theorem c128 {x0 i x1 r} (k : Rd W0 [0] [i] x0) (hm : Vm.impl_get x0 x1 = some r) : Q0 128 [i, vS x1] W0 fun Wf v => ∃ z, v = .tuple [z, vB r.2].toArray ∧ OwS Wf LL [] [z] r.1 := by
 unfold Vm.impl_get at hm
 refine CallR.of Tryz.func128 rfl rfl rfl rfl (sr (Gv (.slice none 0 0) rfl (Nb rfl (ssr (mv i rfl (Lw.ln x0 k rfl (mi rfl (nl (Cw.block ?_)))))))))
 obtain ⟨H, I, hm⟩ := jn_e hm
 refine Cw.loop 10 21 [4, 5, 7, 10] (fun m l w => ∃ a b d e A f, CW.w f = w ∧ Le [3] W0 f ∧ l = [e, vB b, A, vI d] ∧ Ow f 2 [] [e] a ∧ Vm.impl_get_l1 x0 x1 H m a b d = some r) _ ⟨([] : List Str), false, 0, .slice none 0 0, undef, W0, rfl, Le.refl _ _, rfl, owN 2 [], hm⟩ ?_
 rintro (_ | Q) _ _ σ ⟨a, b, d, e, A, f, rfl, B, rfl, J, hm⟩
 ·cases hm
 unfold Vm.impl_get_l1 at hm
 have h := B.s
 refine sr (Lw.lt rfl (nl (Cw.seq (cn hm (fun hm => ?_) fun hm => ?_))))
 ·refine sk (Cw.seq (Cw.block (sr ?_)))
  obtain ⟨S, C, hm⟩ := ob hm
  refine Lw.r rfl (R.ix (α := File) (k.ul h) C rfl rfl rfl) ?_
  obtain ⟨x15, c16, _, r17⟩ := ((k.ul h).at_ C).cells
  obtain ⟨T, rfl, r19⟩ := File.split r17
  refine Lw.r rfl (R.lda c16 rfl rfl) (al 3 [vS ([] : Str), .slice none 0 0] fun K U x L => ?_)
  have D := x.o
  refine sta L (oc_cons rfl (oc_cons r19.oc oc_nil)) fun M y E => ?_
  have F := y.s
  refine nl (sr (fl E rfl (ms rfl (Lw.seq rfl (nl (cn hm (fun hm => ?_) fun hm => ?_))))))
  ·refine sr (fl E rfl (cr hm (fun _ => p105 (k0 := 4) (r19.ul (D.trans F))) ?_))
   rintro V G W hm N ⟨_, rfl, O⟩
   have P := ((h.trans D).trans F).n N
   refine Gv G rfl (Nb rfl ?_)
   cases hm
   exact Cw.ret (ret2 rfl rfl (Res.mk P ⟨G, rfl, O.s.sub rfl rfl⟩))
  ·exact sk (rg (Lw.add rfl (mi rfl (nl ((agm) ⟨a, b, w64 (d + 1), e, ptr (bx K), M, rfl, ((B.j x).j y).w, rfl, ((J.up x).up y), hm⟩)))))
 ·refine Cw.exit ?_
  rw [I] at hm
  refine sr (Gv (.slice none 0 0) rfl (Nb rfl ?_))
  cases hm
  exact Cw.ret (ret2 rfl rfl (Res.mk h ⟨.slice none 0 0, rfl, (owsN []).sub rfl rfl⟩))
theorem p128 {x0 b x1 k0 r} (d : Rd W K [b] x0) (hm : Vm.impl_get x0 x1 = some r) : Q1 128 [b, vS x1] W [] fun W' v => ∃ a, v = .tuple [a, vB r.2].toArray ∧ Ow W' k0 [] [a] r.1 :=
 (c128 (d.view _) hm).ad (fk k0) fun _ _ ⟨a, e, f⟩ => ⟨a, e, f.back (fk_LL _)⟩
theorem c109 {x0 d x1 r} (x : Rd W0 [0] [d] x0) (hm : Vm.impl_hasAt x0 x1 = some r) : Q0 109 [d, vS x1] W0 fun Wf v => ∃ f, v = .agg [f, vB r.file].toArray ∧ OwS Wf LL [] [f] r.text := by
 unfold Vm.impl_hasAt at hm
 refine CallR.of Tryz.func109 rfl rfl rfl rfl (sr (al 2 [.slice none 0 0, vB false] fun D E y z => ?_))
 have h := y.o
 refine nl (sr (mv d rfl (ms rfl (cr hm (fun _ => p128 (k0 := 3) (x.ul h)) ?_))))
 rintro b _ F hm i ⟨a, rfl, e⟩
 have A := h.n i
 refine mv (.tuple [a, vB b.2].toArray) rfl (Lw.r rfl (R.ext (vs := [a, vB b.2]) (v := a) rfl rfl) (Lw.r rfl (R.ext (vs := [a, vB b.2]) (v := vB b.2) rfl rfl) (Gv a rfl (Nb rfl (sr (mv a rfl (mb rfl (Lw.r rfl (R.bd (zs := [.slice none 0 0, vB false]) (cs := [a, vB b.2]) [(0, a), (1, vB b.2)] rfl rfl rfl (bp_cons e.oc rfl (bp_cons rfl rfl bp_nil))) (sta (z.up i) (oc_cons e.oc (oc_cons rfl oc_nil)) fun G k B => ?_)))))))))
 have C := A.t k
 refine nl ?_
 cases hm
 exact Cw.ret (retA1 rfl B (Res.mk C ⟨a, rfl, (e.up k).s.sub rfl rfl⟩))
theorem p109 {x0 b x1 k0 r} (d : Rd W K [b] x0) (hm : Vm.impl_hasAt x0 x1 = some r) : Q1 109 [b, vS x1] W [] fun W' v => ∃ a, v = .agg [a, vB r.file].toArray ∧ Ow W' k0 [] [a] r.text :=
 (c109 (d.view _) hm).ad (fk k0) fun _ _ ⟨a, e, f⟩ => ⟨a, e, f.back (fk_LL _)⟩
theorem c140 {x0 b x1 f r} (d : Rd W0 [0] [b] x0) (h : Rd W0 [0] [f] x1) (hm : Vm.slices_Equal_string_string x0 x1 = some r) : Q0 140 [b, f] W0 fun Wf v => v = vB r := by
 unfold Vm.slices_Equal_string_string at hm
 refine CallR.of Tryz.func140 rfl rfl rfl rfl (sr (Nb rfl (ssr (mv b rfl (Lw.ln x0 d rfl (mv f rfl (Lw.ln x1 h rfl (Lw.ne rfl (nl (cn hm (fun hm => ?_) fun hm => ?_))))))))))
 ·exact sr (Nb rfl (.ret (rt hm (Le.refl _ _))))
 ·refine sk (ssr (mv b rfl (Lw.ln x0 d rfl (mi rfl (nl (Cw.block ?_))))))
  obtain ⟨C, D, hm⟩ := jn_e hm
  refine Cw.loop 13 25 [4, 5, 13] (fun m l w => ∃ i e z k, CW.w k = w ∧ Le [] W0 k ∧ l = [vB i, z, vI e] ∧ Vm.slices_Equal_string_string_l1 x0 x1 C m i e = some r) _ ⟨false, 0, undef, W0, rfl, Le.refl _ _, rfl, hm⟩ ?_
  rintro (_ | F) _ _ σ ⟨i, e, z, k, rfl, A, rfl, hm⟩
  ·cases hm
  unfold Vm.slices_Equal_string_string_l1 at hm
  have B := A.o
  refine sr (Lw.lt rfl (nl (Cw.seq (cn hm (fun hm => ?_) fun hm => ?_))))
  ·refine sk (Cw.seq (Cw.block (sr (mi rfl (Ni rfl (Cw.seq (Cw.draw [] [(0, 0), (1, 0), (2, 0), (3, 1), (4, 0), (5, 0), (6, 0), (7, 1), (8, 0)] mixed (by kernel_rfl) fun E l10 => ?_)))))))
   have a := B.n l10
   refine Dv b rfl (Di rfl ?_)
   obtain ⟨G, x, hm⟩ := ob hm
   refine Mw.p rfl rfl (fun _ => R.ix (α := Str) (d.ul a) x rfl rfl rfl) (Mw.q rfl rfl (fun _ c => R.ld rfl rfl (cl_cell ((d.ul a).at_ x).1 rfl ((d.ul a).at_ x).str c)) (Dv f rfl (Di rfl ?_)))
   obtain ⟨H, y, hm⟩ := ob hm
   refine Mw.p rfl rfl (fun _ => R.ix (α := Str) (h.ul a) y rfl rfl rfl) (Mw.q rfl rfl (fun _ c => R.ld rfl rfl (cl_cell ((h.ul a).at_ y).1 rfl ((h.ul a).at_ y).str c)) (Mw.p rfl rfl (fun _ => R.sne rfl rfl) (Mw.nil (cn hm (fun hm => ?_) fun hm => ?_))))
   ·exact sr (Nb rfl (.ret (rt hm a)))
   ·exact sk (rg (Lw.add rfl (mi rfl (nl ((agm) ⟨i, w64 (e + 1), vI e, E, rfl, (A.j l10).w, rfl, hm⟩)))))
  ·refine Cw.exit ?_
   rw [D] at hm
   exact sr (Nb rfl (.ret (rt hm B)))
theorem p140 {x0 a x1 b r} (d : Rd W K [a] x0) (f : Rd W K [b] x1) (hm : Vm.slices_Equal_string_string x0 x1 = some r) : Q1 140 [a, b] W [] fun W' v => v = vB r :=
 (c140 (d.view _) (f.view _) hm).ad (fk 0) fun _ _ e => e
theorem c126 {x0 h x1 i r} (B : Rd W0 [0] [h, vB x0.file] x0) (C : Rd W0 [0] [i, vB x1.file] x1) (hm : Vm.impl_has_same x0 x1 = some r) : Q0 126 [.agg [h, vB x0.file].toArray, .agg [i, vB x1.file].toArray] W0 fun Wf v => v = vB r := by
 unfold Vm.impl_has_same at hm
 obtain ⟨O, k, D⟩ := has.split B
 simp only [List.cons.injEq, and_true, true_and] at k
 obtain rfl := k
 obtain ⟨P, x, E⟩ := has.split C
 simp only [List.cons.injEq, and_true, true_and] at x
 obtain rfl := x
 refine CallR.of Tryz.func126 rfl rfl rfl rfl (sr (bo 2 rfl fun Q S F y => ?_))
 have G := F.o
 refine bo 3 rfl fun T z b A => ?_
 have d := G.n b
 refine Nb rfl ?_
 obtain ⟨H, I, hm⟩ := jn_e hm
 refine Cw.join 5 16 [4] (fun l w => ∃ e f, CW.w f = w ∧ Le [] z f ∧ l = [vB e] ∧ H e = some r) ?_ ?_
 ·rintro _ _ σ ⟨e, f, rfl, J, rfl, hm⟩
  rw [I] at hm
  have K := d.n J
  exact .ret (rt hm K)
 ·refine rg (fl (y.up b) rfl (fl A rfl (Lw.r rfl (R.beq rfl rfl) (mb rfl (bs hm (fun a hm => ?_) fun a hm => ?_)))))
  ·exact wak 5 a (fl (y.up b) rfl (fl A rfl (ca hm (fun _ => p140 (D.ul d) (E.ul d)) fun L M hm N => Pb a rfl (Nb rfl ((ag) ⟨L, M, rfl, N, rfl, hm⟩)))))
  ·exact psk 5 a rfl (Pb a rfl (Nb rfl ((ag) ⟨false, z, rfl, Le.refl _ _, rfl, hm⟩)))
theorem p126 {x0 a x1 b r} (d : Rd W K [a, vB x0.file] x0) (f : Rd W K [b, vB x1.file] x1) (hm : Vm.impl_has_same x0 x1 = some r) : Q1 126 [.agg [a, vB x0.file].toArray, .agg [b, vB x1.file].toArray] W [] fun W' v => v = vB r :=
 (c126 (d.view _) (f.view _) hm).ad (fk 0) fun _ _ e => e
theorem c160 {x0 e x1 f x2 h r} (z : Rd W0 [0] [e] x0) (A : Rd W0 [0] [f] x1) (B : Rd W0 [0] [h] x2) (hm : Vm.impl_areTexts x0 x1 x2 = some r) : Q0 160 [e, f, h] W0 fun Wf v => v = vB r := by
 unfold Vm.impl_areTexts at hm
 refine CallR.of Tryz.func160 rfl rfl rfl rfl (sr (Nb rfl ?_))
 obtain ⟨C, D, hm⟩ := jn_e hm
 refine Cw.join 7 16 [6] (fun l w => ∃ i k, CW.w k = w ∧ Le [] W0 k ∧ l = [vB i] ∧ C i = some r) ?_ ?_
 ·rintro _ _ σ ⟨i, k, rfl, E, rfl, hm⟩
  rw [D] at hm
  have F := E.o
  exact .ret (rt hm F)
 ·refine rg (mv e rfl (ca hm (fun _ => p84 z) fun M G hm d => ?_))
  have y := d.o
  refine mb rfl (bs hm (fun a hm => ?_) fun a hm => ?_)
  ·refine wak 2 a (mv f rfl (ca hm (fun _ => p84 (A.ul y)) fun N H hm x => ?_))
   have I := y.n x
   refine Pb a rfl (mb rfl (bs hm (fun b hm => ?_) fun b hm => ?_))
   ·exact wak 2 b (mv h rfl (ca hm (fun _ => p84 (B.ul I)) fun J K hm L => Pb b rfl (Nb rfl ((ag) ⟨J, K, rfl, ((d.j x).j L).w, rfl, hm⟩))))
   ·exact psk 2 b rfl (Pb b rfl (Nb rfl ((ag) ⟨false, H, rfl, (d.j x).w, rfl, hm⟩)))
  ·exact psk 2 a rfl (Pb a rfl (mb rfl (psk 2 rfl rfl (Pb rfl rfl (Nb rfl ((ag) ⟨false, G, rfl, d, rfl, hm⟩))))))
theorem p160 {x0 a x1 b x2 d r} (f : Rd W K [a] x0) (h : Rd W K [b] x1) (i : Rd W K [d] x2) (hm : Vm.impl_areTexts x0 x1 x2 = some r) : Q1 160 [a, b, d] W [] fun W' v => v = vB r :=
 (c160 (f.view _) (h.view _) (i.view _) hm).ad (fk 0) fun _ _ e => e
theorem c178 {x0 k x1 x r} (y : Rd W0 [0] [k] x0) (z : Rd W0 [0] [x] x1) (hm : Vm.impl_lcs x0 x1 = some r) : Q0 178 [k, x] W0 fun Wf v => ∃ u0, v = u0 ∧ OwS Wf LL [] [u0] r := by
 unfold Vm.impl_lcs at hm
 refine CallR.of Tryz.func178 rfl rfl rfl rfl (sr (Nv (.slice none 0 0) rfl (sr (mv k rfl (Lw.ln x0 y rfl (Lw.add rfl ?_))))))
 obtain ⟨M, e2, hm⟩ := ob hm
 refine Lw.t rfl (T.mk (α := List Int) 2 [] (n := w64 ((x0.length : Int) + 1)) rfl rfl e2) ?_
 rintro a _ ⟨W3, rfl, l3, o3⟩
 have a4 := l3.o
 refine Nv a rfl (ssr (mv a rfl (Lw.ln M o3.rd rfl (mi rfl (nl (Cw.block ?_))))))
 obtain ⟨a1, a2, hm⟩ := jn_e hm
 refine Cw.loop 15 25 [6, 15] (fun m l w => ∃ A F j5 e, CW.w e = w ∧ Le [2, 3] W3 e ∧ l = [j5, vI A] ∧ Ow e 2 [] [a] F ∧ Vm.impl_lcs_l1 x1 M a1 m A F = some r) _ ⟨0, M, undef, W3, rfl, Le.refl _ _, rfl, o3, hm⟩ ?_
 rintro (_ | ce) _ _ σ ⟨A, F, j5, e, rfl, l9, rfl, N, hm⟩
 ·cases hm
 unfold Vm.impl_lcs_l1 at hm
 have O := a4.t l9
 refine sr (Lw.lt rfl (nl (Cw.seq (cn hm (fun hm => ?_) fun hm => ?_))))
 ·refine sk (Cw.seq (Cw.block (sr (mi rfl (Ni rfl (rg (mv a rfl (mi rfl (mv x rfl (Lw.ln x1 (z.ul O) rfl (Lw.add rfl ?_)))))))))))
  obtain ⟨cf, a3, hm⟩ := ob hm
  refine Lw.t rfl (T.mk (α := Int) 3 [] (n := w64 ((x1.length : Int) + 1)) rfl rfl a3) ?_
  rintro cg _ ⟨ch, rfl, P, am⟩
  obtain ⟨ci, a5, hm⟩ := ob hm
  refine Lw.r rfl (R.ix (α := List Int) (N.up P).rd a5 rfl rfl rfl) ?_
  obtain ⟨a6, a7, hm⟩ := ob hm
  refine Lw.u (T.stO (J := [3]) (N.up P) am.s a7 rfl rfl (cells_list am.oc)) ?_
  rintro _ _ ⟨a8, rfl, a9, ba⟩
  exact nl (rg (Lw.add rfl (mi rfl (nl ((agm) ⟨w64 (A + 1), a6, vI A, a8, rfl, ((l9.j P).j a9).w, rfl, ba, hm⟩)))))
 ·refine Cw.exit ?_
  rw [a2] at hm
  refine ssr (mv k rfl (Lw.ln x0 (y.ul O) rfl (Lw.sub rfl (Ni rfl (Cw.block ?_)))))
  obtain ⟨bb, bc, hm⟩ := jn_e hm
  refine Cw.loop 29 87 [7, 8] (fun m l w => ∃ B G an f, CW.w f = w ∧ Le [2, 4, 5] e f ∧ l = [vI B, an] ∧ Ow f 2 [] [a] G ∧ Vm.impl_lcs_l2 x0 x1 bb m B G = some r) _ ⟨w64 ((x0.length : Int) - 1), F, undef, e, rfl, Le.refl _ _, rfl, N, hm⟩ ?_
  rintro (_ | cj) _ _ σ ⟨B, G, an, f, rfl, ao, rfl, ap, hm⟩
  ·cases hm
  unfold Vm.impl_lcs_l2 at hm
  have Q := O.t ao
  refine ssr (mi rfl (Lw.ge rfl (nl (cn hm (fun hm => ?_) fun hm => ?_))))
  ·refine sk (Cw.seq (Cw.block (sr (mv x rfl (Lw.ln x1 (z.ul Q) rfl (Lw.sub rfl (Ni rfl (Cw.block ?_))))))))
   obtain ⟨be, bg, hm⟩ := jn_e hm
   refine Cw.loop 36 87 [8] (fun m l w => ∃ C H h, CW.w h = w ∧ Le [2, 4, 5] f h ∧ l = [vI C] ∧ Ow h 2 [] [a] H ∧ Vm.impl_lcs_l3 x0 x1 B be m C H = some r) _ ⟨w64 ((x1.length : Int) - 1), G, f, rfl, Le.refl _ _, rfl, ap, hm⟩ ?_
   rintro (_ | ck) _ _ σ ⟨C, H, h, rfl, S, rfl, U, hm⟩
   ·cases hm
   unfold Vm.impl_lcs_l3 at hm
   have bh := Q.t S
   refine ssr (mi rfl (Lw.ge rfl (nl (cn hm (fun hm => ?_) fun hm => ?_))))
   ·refine sk ?_
    obtain ⟨bi, bj, hm⟩ := jn_e hm
    refine Cw.join 40 87 [] (fun l w => ∃ I D, CW.w D = w ∧ Le [2, 4, 5] h D ∧ l = [] ∧ Ow D 2 [] [a] I ∧ bi I = some r) ?_ ?_
    ·rintro _ _ σ ⟨I, D, rfl, bk, rfl, bl, hm⟩
     rw [bj] at hm
     exact rg (mi rfl (Lw.sub rfl (Ni rfl ((agm) ⟨w64 (C - 1), I, D, rfl, (S.j bk).w, rfl, bl, hm⟩))))
    ·refine Cw.block (Cw.seq (Cw.draw [] [(0, 0), (1, 0), (2, 0), (3, 1), (4, 0), (5, 0), (6, 0), (7, 1), (8, 0)] mixed (by kernel_rfl) fun cl E => ?_))
     have i := bh.n E
     refine Dv k rfl (Di rfl ?_)
     obtain ⟨cm, V, hm⟩ := ob hm
     refine Mw.p rfl rfl (fun _ => R.ix (α := Str) (y.ul i) V rfl rfl rfl) (Mw.q rfl rfl (fun _ c => R.ld rfl rfl (cl_cell ((y.ul i).at_ V).1 rfl ((y.ul i).at_ V).str c)) (Dv x rfl (Di rfl ?_)))
     obtain ⟨co, W, hm⟩ := ob hm
     refine Mw.p rfl rfl (fun _ => R.ix (α := Str) (z.ul i) W rfl rfl rfl) (Mw.q rfl rfl (fun _ c => R.ld rfl rfl (cl_cell ((z.ul i).at_ W).1 rfl ((z.ul i).at_ W).str c)) (Mw.p rfl rfl (fun _ => R.seq rfl rfl) (Mw.nil (cn hm (fun hm => ?_) fun hm => ?_))))
     ·refine Cw.draw [] [(0, 0), (1, 0), (2, 0), (3, 1), (4, 0), (5, 0), (6, 0), (7, 0), (8, 0), (9, 1), (10, 0), (11, 0), (12, 0), (13, 1), (14, 0), (15, 0), (16, 3)] mixed (by kernel_rfl) fun cp aq => ?_
      have d := (U.up E).up aq
      refine Dv a rfl (Di rfl ?_)
      obtain ⟨cq, K, hm⟩ := ob hm
      refine Mw.p rfl rfl (fun _ => R.ix (α := List Int) d.rd K rfl rfl rfl) ?_
      obtain ⟨cs, c66, r67⟩ := (d.rd.at_ K).cell rfl
      refine Mw.q rfl rfl (fun _ c => R.ld rfl rfl (cl_cell (d.rd.at_ K).1 rfl c66 c)) (Di rfl (Dv a rfl (Di rfl (Mw.p rfl rfl (fun _ => R.add rfl rfl) ?_))))
      obtain ⟨ct, X, hm⟩ := ob hm
      refine Mw.p rfl rfl (fun _ => R.ix (α := List Int) d.rd X rfl rfl rfl) ?_
      obtain ⟨cu, c71, r72⟩ := (d.rd.at_ X).cell rfl
      refine Mw.q rfl rfl (fun _ c => R.ld rfl rfl (cl_cell (d.rd.at_ X).1 rfl c71 c)) (Di rfl (Mw.p rfl rfl (fun _ => R.add rfl rfl) ?_))
      obtain ⟨cv, Y, hm⟩ := ob hm
      refine Mw.p rfl rfl (fun _ => R.ix (α := Int) r72 Y rfl rfl rfl) (Mw.q rfl rfl (fun _ c => R.ld rfl rfl (cl_cell (r72.at_ Y).1 rfl (r72.at_ Y).int c)) (Mw.p rfl rfl (fun _ => R.add rfl rfl) ?_))
      obtain ⟨cw, bm, hm⟩ := ob hm
      refine Mw.p rfl rfl (fun _ => R.ix (α := Int) r67 bm rfl rfl rfl) ?_
      obtain ⟨cx, bn, bp, bq, gb77⟩ := Ow.lend (α := List Int) (β := List Int) (j := 4) (jf := 0) d K (by rw [h_add0]; exact c66) rfl
      rw [← bn]
      obtain ⟨cy, br, hm⟩ := ob hm
      refine Mw.lu rfl (T.stS (K' := []) bq (rdI _) br rfl rfl rfl) ?_
      rintro _ _ ⟨cz, rfl, ar, bu⟩
      obtain ⟨bv, bw, bz, b0, eq84, b1⟩ := gb77 _ _ ar bu
      obtain ⟨au, eqm84, hm⟩ := ob hm
      obtain rfl : au = b0 := Option.some.inj (eqm84.symm.trans eq84)
      rw [← bw]
      exact Mw.nil ((ag) ⟨au, bv, rfl, ((((E.j aq).j bp).j ar).j bz).w, rfl, b1, hm⟩)
     ·refine Cw.draw [] [(0, 0), (1, 0), (2, 0), (3, 1), (4, 0), (5, 0), (6, 0), (7, 0), (8, 0), (9, 1), (10, 0), (11, 0), (12, 1), (13, 0), (14, 0), (15, 0), (16, 1), (17, 0), (18, 0), (19, 0), (20, 1), (21, 0), (22, 0), (23, 3)] mixed (by kernel_rfl) fun c0 av => ?_
      have b := (U.up E).up av
      refine Dv a rfl (Di rfl ?_)
      obtain ⟨c1, L, hm⟩ := ob hm
      refine Mw.p rfl rfl (fun _ => R.ix (α := List Int) b.rd L rfl rfl rfl) ?_
      obtain ⟨c2, c92, r93⟩ := (b.rd.at_ L).cell rfl
      refine Mw.q rfl rfl (fun _ c => R.ld rfl rfl (cl_cell (b.rd.at_ L).1 rfl c92 c)) (Di rfl (Dv a rfl (Di rfl (Mw.p rfl rfl (fun _ => R.add rfl rfl) ?_))))
      obtain ⟨c3, Z, hm⟩ := ob hm
      refine Mw.p rfl rfl (fun _ => R.ix (α := List Int) b.rd Z rfl rfl rfl) ?_
      obtain ⟨c4, c97, r98⟩ := (b.rd.at_ Z).cell rfl
      refine Mw.q rfl rfl (fun _ c => R.ld rfl rfl (cl_cell (b.rd.at_ Z).1 rfl c97 c)) (Di rfl ?_)
      obtain ⟨c5, aa, hm⟩ := ob hm
      refine Mw.p rfl rfl (fun _ => R.ix (α := Int) r98 aa rfl rfl rfl) (Mw.q rfl rfl (fun _ c => R.ld rfl rfl (cl_cell (r98.at_ aa).1 rfl (r98.at_ aa).int c)) (Dv a rfl (Di rfl ?_)))
      obtain ⟨c6, ac, hm⟩ := ob hm
      refine Mw.p rfl rfl (fun _ => R.ix (α := List Int) b.rd ac rfl rfl rfl) ?_
      obtain ⟨c7, c104, r105⟩ := (b.rd.at_ ac).cell rfl
      refine Mw.q rfl rfl (fun _ c => R.ld rfl rfl (cl_cell (b.rd.at_ ac).1 rfl c104 c)) (Di rfl (Mw.p rfl rfl (fun _ => R.add rfl rfl) ?_))
      obtain ⟨c8, ae, hm⟩ := ob hm
      refine Mw.p rfl rfl (fun _ => R.ix (α := Int) r105 ae rfl rfl rfl) (Mw.q rfl rfl (fun _ c => R.ld rfl rfl (cl_cell (r105.at_ ae).1 rfl (r105.at_ ae).int c)) (Mw.p rfl rfl (fun _ => R.max rfl rfl) ?_))
      obtain ⟨c9, b2, hm⟩ := ob hm
      refine Mw.p rfl rfl (fun _ => R.ix (α := Int) r93 b2 rfl rfl rfl) ?_
      obtain ⟨da, b3, b4, b5, gb110⟩ := Ow.lend (α := List Int) (β := List Int) (j := 5) (jf := 0) b L (by rw [h_add0]; exact c92) rfl
      rw [← b3]
      obtain ⟨db, b6, hm⟩ := ob hm
      refine Mw.lu rfl (T.stS (K' := []) b5 (rdI _) b6 rfl rfl rfl) ?_
      rintro _ _ ⟨dc, rfl, aw, b7⟩
      obtain ⟨b8, b9, cb, cc, eq117, cd⟩ := gb110 _ _ aw b7
      obtain ⟨ax, eqm117, hm⟩ := ob hm
      obtain rfl : ax = cc := Option.some.inj (eqm117.symm.trans eq117)
      rw [← b9]
      exact Mw.nil ((ag) ⟨ax, b8, rfl, ((((E.j av).j b4).j aw).j cb).w, rfl, cd, hm⟩)
   ·refine Cw.exit ?_
    rw [bg] at hm
    exact rg (mi rfl (Lw.sub rfl (Ni rfl ((agm) ⟨w64 (B - 1), H, vI C, h, rfl, (ao.j S).w, rfl, U, hm⟩))))
  ·refine Cw.exit ?_
   rw [bc] at hm
   refine sr (mv a rfl (Nv a rfl ?_))
   cases hm
   exact Cw.ret (ret1 rfl (Res.mk Q ⟨a, rfl, ap.s.sub rfl rfl⟩))
theorem p178 {x0 b x1 d k0 r} (f : Rd W K [b] x0) (h : Rd W K [d] x1) (hm : Vm.impl_lcs x0 x1 = some r) : Q1 178 [b, d] W [] fun W' v => ∃ a, v = a ∧ Ow W' k0 [] [a] r :=
 (c178 (f.view _) (h.view _) hm).ad (fk k0) fun _ _ ⟨a, e, i⟩ => ⟨a, e, i.back (fk_LL _)⟩
theorem c173 {x0 x x1 i r} (y : Rd W0 [0] [x] x0) (H : Rd W0 [0] [i] x1) (hm : Vm.impl_match x0 x1 = some r) : Q0 173 [x, i] W0 fun Wf v => ∃ W, v = W ∧ OwS Wf LL [] [W] r := by
 unfold Vm.impl_match at hm
 refine CallR.of Tryz.func173 rfl rfl rfl rfl (sr (Nv (.slice none 0 0) rfl (sr (mv x rfl (mv i rfl (cr hm (fun _ => p178 (k0 := 2) y H) ?_))))))
 rintro z1 I X hm l3 ⟨_, rfl, ap⟩
 have a4 := l3.o
 refine Nv I rfl (sr (Nv (.slice none 0 0) rfl (ssr (Gi rfl (Ni rfl (Cw.block ?_))))))
 obtain ⟨ar, au, hm⟩ := jn_e hm
 refine Cw.loop 12 70 [6, 7, 8] (fun m l w => ∃ A e d f z, CW.w z = w ∧ Le [3] X z ∧ l = [f, vI e, vI d] ∧ Ow z 3 [] [f] A ∧ Vm.impl_match_l1 x0 x1 z1 ar m A e d = some r) _ ⟨([] : List Int), 0, 0, .slice none 0 0, X, rfl, Le.refl _ _, rfl, owN 3 [], hm⟩ ?_
 rintro (_ | bg) _ _ σ ⟨A, e, d, f, z, rfl, l10, rfl, J, hm⟩
 ·cases hm
 unfold Vm.impl_match_l1 at hm
 have B := a4.t l10
 refine ssr (mi rfl (mv x rfl (Lw.ln x0 (y.ul B) rfl (Lw.lt rfl (nl (cn hm (fun hm => ?_) fun hm => ?_))))))
 ·refine sk (Cw.block (Cw.block ?_))
  obtain ⟨av, aw, hm⟩ := jn_e hm
  refine Cw.join 18 33 [18] (fun l w => ∃ K C, CW.w C = w ∧ Le [] z C ∧ l = [vB K] ∧ av K = some r) ?_ ?_
  ·rintro _ _ σ ⟨K, C, rfl, h, rfl, hm⟩
   rw [aw] at hm
   have ax := B.n h
   refine cn hm (fun hm => ?_) fun hm => ?_
   ·refine sr (mv f rfl (mi rfl (Lw.t rfl (T.bs 4 [vI d] (cs := [vI d]) rfl rfl (bsv rfl)) ?_)))
    rintro _ _ ⟨bh, bi, rfl, rfl, Y, ay⟩
    obtain ⟨az, a0, hm⟩ := ob hm
    refine Lw.t rfl (T.app1S (α := Int) (K' := []) ((J.up h).up Y) ay (rdI _) rfl rfl a0) ?_
    rintro Z _ ⟨a1, rfl, a2, a3⟩
    exact Nv Z rfl (sr (mi rfl (Lw.add rfl (Ni rfl (rg (mi rfl (Lw.add rfl (Ni rfl ((agm) ⟨az, w64 (e + 1), w64 (d + 1), Z, a1, rfl, (((l10.j h).j Y).j a2).w, rfl, a3, hm⟩)))))))))
   ·obtain ⟨a5, a6, hm⟩ := jn_e hm
    refine Cw.join 42 65 [42] (fun l w => ∃ L D, CW.w D = w ∧ Le [] C D ∧ l = [vB L] ∧ a5 L = some r) ?_ ?_
    ·rintro _ _ σ ⟨L, D, rfl, M, rfl, hm⟩
     rw [a6] at hm
     have aa := (J.up h).up M
     refine cn hm (fun hm => ?_) fun hm => ?_
     ·refine sr (mv f rfl (Lw.t rfl (T.bs 5 [vI (-1)] (cs := [vI (-1)]) rfl rfl (bsv rfl)) ?_))
      rintro _ _ ⟨bj, bk, rfl, rfl, ac, a7⟩
      obtain ⟨a8, a9, hm⟩ := ob hm
      refine Lw.t rfl (T.app1S (α := Int) (K' := []) (aa.up ac) a7 (rdI _) rfl rfl a9) ?_
      rintro ae _ ⟨ba, rfl, bb, bc⟩
      exact Nv ae rfl (rg (mi rfl (Lw.add rfl (Ni rfl ((agm) ⟨a8, w64 (e + 1), d, ae, ba, rfl, ((((l10.j h).j M).j ac).j bb).w, rfl, bc, hm⟩)))))
     ·exact rg (mi rfl (Lw.add rfl (Ni rfl ((agm) ⟨A, e, w64 (d + 1), f, D, rfl, ((l10.j h).j M).w, rfl, aa, hm⟩))))
    ·refine Cw.draw [] [(0, 0), (1, 0), (2, 0), (3, 0), (4, 0), (5, 0), (6, 0), (7, 0), (8, 0), (9, 1), (10, 0), (11, 0), (12, 1), (13, 0), (14, 0), (15, 0), (16, 1), (17, 0), (18, 0), (19, 0), (20, 1), (21, 0), (22, 0), (23, 0)] mixed (by kernel_rfl) fun af E => ?_
     have be := ax.n E
     have k := ((ap.up l10).up h).up E
     refine Di rfl (Dv i rfl (Mw.p rfl rfl (fun _ => lenR (xs := x1) (H.ul be) rfl) (Mw.p rfl rfl (fun _ => R.eq rfl rfl) (Db rfl (bs hm (fun a hm => ?_) fun a hm => ?_)))))
     ·exact dps 17 a rfl (Mw.p rfl rfl (fun _ => R.pk a rfl (v := vB true) rfl) (Hb rfl (Mw.nil ((ag) ⟨true, af, rfl, E, rfl, hm⟩))))
     ·refine Wp a rfl (fun _ => R.mv (v := I) rfl) (Wp a rfl (fun _ => R.mv (v := vI e) rfl) (Wp a rfl (fun _ => R.add rfl rfl) ?_))
      obtain ⟨bl, N, hm⟩ := ob hm
      refine Wp a rfl (fun _ => R.ix (α := List Int) k.rd N rfl rfl rfl) ?_
      obtain ⟨bm, c60, r61⟩ := (k.rd.at_ N).cell rfl
      refine Wq a rfl (fun _ c => R.ld rfl rfl (cl_cell (k.rd.at_ N).1 rfl c60 c)) (Wp a rfl (fun _ => R.mv (v := vI d) rfl) ?_)
      obtain ⟨ah, O, hm⟩ := ob hm
      refine Wp a rfl (fun _ => R.ix (α := Int) r61 O rfl rfl rfl) (Wq a rfl (fun _ c => R.ld rfl rfl (cl_cell (r61.at_ O).1 rfl (r61.at_ O).int c)) (Wp a rfl (fun _ => R.mv (v := I) rfl) (Wp a rfl (fun _ => R.mv (v := vI e) rfl) ?_)))
      obtain ⟨u64, P, hm⟩ := ob hm
      refine Wp a rfl (fun _ => R.ix (α := List Int) k.rd P rfl rfl rfl) ?_
      obtain ⟨bn, c67, r68⟩ := (k.rd.at_ P).cell rfl
      refine Wq a rfl (fun _ c => R.ld rfl rfl (cl_cell (k.rd.at_ P).1 rfl c67 c)) (Wp a rfl (fun _ => R.mv (v := vI d) rfl) (Wp a rfl (fun _ => R.add rfl rfl) ?_))
      obtain ⟨ai, Q, hm⟩ := ob hm
      exact Wp a rfl (fun _ => R.ix (α := Int) r68 Q rfl rfl rfl) (Wq a rfl (fun _ c => R.ld rfl rfl (cl_cell (r68.at_ Q).1 rfl (r68.at_ Q).int c)) (Wp a rfl (fun _ => R.ge rfl rfl) (Mw.p rfl rfl (fun _ => R.pk a rfl (v := vB (decide ((ai : Int) ≤ (ah : Int)))) rfl) (Hb rfl (Mw.nil ((ag) ⟨decide ((ai : Int) ≤ (ah : Int)), af, rfl, E, rfl, hm⟩))))))
  ·refine Cw.draw [] [(0, 0), (1, 0), (2, 0), (3, 0), (4, 0), (5, 0), (6, 0), (7, 0), (8, 1), (9, 0), (10, 0), (11, 0), (12, 1), (13, 0), (14, 0), (15, 0)] mixed (by kernel_rfl) fun aj S => ?_
   have F := B.n S
   have G := H.ul F
   refine Di rfl (Dv i rfl (Mw.p rfl rfl (fun _ => lenR (xs := x1) G rfl) (Mw.p rfl rfl (fun _ => R.lt rfl rfl) (Db rfl (bs hm (fun b hm => ?_) fun b hm => ?_)))))
   ·refine Wp b rfl (fun _ => R.mv (v := x) rfl) (Wp b rfl (fun _ => R.mv (v := vI e) rfl) ?_)
    obtain ⟨ak, U, hm⟩ := ob hm
    refine Wp b rfl (fun _ => R.ix (α := Str) (y.ul F) U rfl rfl rfl) (Wq b rfl (fun _ c => R.ld rfl rfl (cl_cell ((y.ul F).at_ U).1 rfl ((y.ul F).at_ U).str c)) (Wp b rfl (fun _ => R.mv (v := i) rfl) (Wp b rfl (fun _ => R.mv (v := vI d) rfl) ?_)))
    obtain ⟨am, V, hm⟩ := ob hm
    exact Wp b rfl (fun _ => R.ix (α := Str) G V rfl rfl rfl) (Wq b rfl (fun _ c => R.ld rfl rfl (cl_cell (G.at_ V).1 rfl (G.at_ V).str c)) (Wp b rfl (fun _ => R.seq rfl rfl) (Mw.p rfl rfl (fun _ => R.pk b rfl (v := vB (ak == am)) rfl) (Hb rfl (Mw.nil ((ag) ⟨(ak == am), aj, rfl, S, rfl, hm⟩))))))
   ·exact dps 9 b rfl (Mw.p rfl rfl (fun _ => R.pk b rfl (v := vB false) rfl) (Hb rfl (Mw.nil ((ag) ⟨false, aj, rfl, S, rfl, hm⟩))))
 ·refine Cw.exit ?_
  rw [au] at hm
  refine sr (mv f rfl (Nv f rfl ?_))
  cases hm
  exact Cw.ret (ret1 rfl (Res.mk B ⟨f, rfl, J.s.sub rfl rfl⟩))
theorem p173 {x0 b x1 d k0 r} (f : Rd W K [b] x0) (h : Rd W K [d] x1) (hm : Vm.impl_match x0 x1 = some r) : Q1 173 [b, d] W [] fun W' v => ∃ a, v = a ∧ Ow W' k0 [] [a] r :=
 (c173 (f.view _) (h.view _) hm).ad (fk k0) fun _ _ ⟨a, e, i⟩ => ⟨a, e, i.back (fk_LL _)⟩
theorem c174 {x0 i x1 k a r} (I : Rd W0 [0] [i] x0) (hB1 : Bx W0 2 k [a]) (b : Ow W0 3 [] [a] x1) (hm : Vm.impl_mergeOf_c1 x0 x1 = some r) : Q0 174 [i, ptr (bx k)] W0 fun Wf v => ∃ uc1, v = .tuple #[] ∧ Ow Wf 3 [] [uc1] r ∧ Bx Wf 2 k [uc1] := by
 unfold Vm.impl_mergeOf_c1 at hm
 refine CallR.of Tryz.func174 rfl rfl rfl rfl (ssr (mv i rfl (Lw.ln x0 I rfl (Lw.eq rfl (nl (cn hm (fun hm => ?_) fun hm => ?_))))))
 ·cases hm
  exact Cw.ret (ret0 (Res.mk (Le.refl _ _) ⟨a, rfl, b, hB1⟩))
 ·refine sk (sr (Lw.r rfl (R.ld (v := a) rfl rfl (hB1.cell0 rfl)) (Lw.ln x1 b.rd rfl (Lw.sub rfl (Ni rfl ?_)))))
  obtain ⟨U, V, hm⟩ := jn_e hm
  refine Cw.join 10 24 [3] (fun l w => ∃ A B d e, CW.w e = w ∧ Le [2, 3] W0 e ∧ l = [vI A] ∧ Ow e 3 [] [d] B ∧ Bx e 2 k [d] ∧ U A B = some r) ?_ ?_
  ·rintro _ _ σ ⟨A, B, d, e, rfl, W, rfl, X, Y, hm⟩
   rw [V] at hm
   have Z := W.s
   refine Cw.draw [3, 4] [(0, 1), (1, 0), (2, 1), (3, 0), (4, 0), (5, 0), (7, 0), (6, 2), (8, 2), (9, 0), (10, 0), (11, 3)] mixed (by kernel_rfl) fun az l10 => ?_
   have aa := Z.n l10
   have x := X.up l10
   have C := Y.up l10
   refine Mw.q rfl rfl (fun _ c => R.ld (v := d) rfl rfl (C.clc0 rfl rfl c)) (Di rfl (Mw.q rfl rfl (fun _ c => R.ld (v := d) rfl rfl (C.clc0 rfl rfl c)) (Di rfl ?_)))
   obtain ⟨a0, D, hm⟩ := ob hm
   refine Mw.p rfl rfl (fun _ => R.ix (α := Part) x.rd D rfl rfl rfl) (Df rfl (Dv i rfl ?_))
   obtain ⟨a1, c17, r18⟩ := (Part.at1 (x.rd.at_ D)).cell rfl
   refine Mw.t rfl rfl (Run.tr (R.ld rfl rfl c17)) ?_
   rintro _ _ ⟨hu, rfl⟩
   obtain rfl := hu.symm
   refine ⟨⟨_, rfl, (Le.refl _ _)⟩, ?_⟩
   obtain ⟨a2, ac, E, ae, af⟩ := Ow.take (α := Part) (β := List Str) (j := 4) (jf := 1) x D c17 rfl
   rw [← ac]
   have K := aa.t E
   obtain ⟨a3, ah, hm⟩ := ob hm
   refine Mw.t rfl rfl (T.appP (α := Str) ae (I.ul K) rfl rfl ah) ?_
   rintro a4 _ ⟨a5, rfl, y, ai⟩
   have aj := K.t y
   refine ⟨⟨_, rfl, ((E.sub (M := [3, 4]) rfl).trans (y.sub (M := [3, 4]) rfl))⟩, ?_⟩
   obtain ⟨a6, ak, hm⟩ := ob hm
   refine Mw.p rfl rfl (fun _ => R.ix (α := Part) x.rd ak rfl rfl rfl) (Df rfl ?_)
   obtain ⟨a7, am, hm⟩ := ob hm
   refine Mw.lu rfl (T.stH (α := Part) (β := List Str) (J := [4]) (af.up (y.sub (M := [4]) rfl) rfl) ai.s am rfl rfl rfl rfl) ?_
   rintro _ _ ⟨a8, rfl, L, an⟩
   have ao := aj.t L
   refine Mw.nil ?_
   cases hm
   show RetP _ _ _ .ret _ _
   exact ret0 (Res.mk ao ⟨d, rfl, an, (((C.up E).up y).up L)⟩)
  ·obtain ⟨ap, aq, hm⟩ := jn_e hm
   refine Cw.join 10 18 [18] (fun l w => ∃ F z, CW.w z = w ∧ Le [] W0 z ∧ l = [vB F] ∧ ap F = some r) ?_ ?_
   ·rintro _ _ σ ⟨F, z, rfl, f, rfl, hm⟩
    rw [aq] at hm
    have G := hB1.up f
    refine cn hm (fun hm => ?_) fun hm => ?_
    ·refine sr (lz G rfl (Lw.r rfl (R.bd (zs := [vB false, .slice none 0 0, .slice none 0 0, .slice none 0 0, .slice none 0 0]) (cs := [vB false, .slice none 0 0, .slice none 0 0, .slice none 0 0, .slice none 0 0]) [] rfl rfl rfl bp_nil) (Lw.t rfl (T.bs 5 [.agg [vB false, .slice none 0 0, .slice none 0 0, .slice none 0 0, .slice none 0 0].toArray] (cs := [vB false, .slice none 0 0, .slice none 0 0, .slice none 0 0, .slice none 0 0]) rfl rfl (bsA rfl)) ?_)))
     rintro _ _ ⟨ba, bb, rfl, rfl, H, ar⟩
     obtain ⟨au, av, hm⟩ := ob hm
     refine Lw.t rfl (T.app1 (α := Part) (J := []) (K' := []) ((b.up f).up H) ar (Part.own false ([] : List Str) ([] : List Str) ([] : List Str) ([] : List Str) (owsN []) (owsN []) (owsN []) (owsN [])) rfl rfl av) ?_
     rintro N _ ⟨bc, rfl, O, P⟩
     refine Lw.u (T.st0 (v := N) ((G.up H).up O) rfl rfl P.oc rfl rfl) ?_
     rintro _ _ ⟨aw, rfl, Q, ax⟩
     exact nl (rg (mi rfl (Lw.add rfl (Ni rfl ((ag) ⟨w64 ((w64 ((x1.length : Int) - 1)) + 1), au, N, aw, rfl, (((f.j H).j O).j Q).w, rfl, (P.up Q), ax, hm⟩)))))
    ·exact sk ((ag) ⟨w64 ((x1.length : Int) - 1), x1, a, z, rfl, f.w, rfl, (b.up f), G, hm⟩)
   ·refine rg (mi rfl (Lw.lt rfl (mb rfl (bs hm (fun h hm => ?_) fun h hm => ?_))))
    ·exact psk 5 h rfl (Pb h rfl (nl ((ag) ⟨true, W0, rfl, Le.refl _ _, rfl, hm⟩)))
    ·refine wak 5 h (Lw.r rfl (R.ld (v := a) rfl rfl (hB1.cell0 rfl)) (mi rfl ?_))
     obtain ⟨ay, S, hm⟩ := ob hm
     exact Lw.r rfl (R.ix (α := Part) b.rd S rfl rfl rfl) (Lw.fa rfl (Lw.r rfl (R.ld rfl rfl (Part.at0 (b.rd.at_ S)).bool) (Pb h rfl (nl ((ag) ⟨ay.Clash, W0, rfl, Le.refl _ _, rfl, hm⟩)))))
theorem p174 {x0 b x1 a d c0 c1 r} (f : Rd W K [b] x0) (hB1 : Bx W c0 a [d]) (h : Ow W c1 [] [d] x1) (hJ : okJ K [c0, c1] = true) (hm : Vm.impl_mergeOf_c1 x0 x1 = some r) : Q1 174 [b, ptr (bx a)] W [c0, c1] fun W' v => ∃ uc1, v = .tuple #[] ∧ Ow W' c1 [] [uc1] r ∧ Bx W' c0 a [uc1] :=
 CallR.adJ (J := [c0, c1]) (fun c => bif Nat.beq c 0 then 0 else bif Nat.beq c 2 then c0 else bif Nat.beq c 3 then c1 else 0) (c174 (f.view _) (hB1.viewJ 0 hJ) (h.viewJ 1 hJ) hm) fun _ _ ⟨uc1, e, i, k⟩ => ⟨uc1, e, Ow.backJ 1 i rfl, Bx.backJ 0 k rfl⟩
theorem c161 {x0 b x1 d x2 e r} (z : Rd W0 [0] [b] x0) (X : Rd W0 [0] [d] x1) (Y : Rd W0 [0] [e] x2) (hm : Vm.impl_mergeOf x0 x1 x2 = some r) : Q0 161 [b, d, e] W0 fun Wf v => ∃ u0, v = u0 ∧ OwS Wf LL [] [u0] r := by
 unfold Vm.impl_mergeOf at hm
 refine CallR.of Tryz.func161 rfl rfl rfl rfl (sr (Nv (.slice none 0 0) rfl (sr (mv b rfl (mv d rfl (cr hm (fun _ => p173 (k0 := 2) z X) ?_))))))
 rintro z1 fe W3 hm l3 ⟨_, rfl, c3⟩
 have a4 := l3.o
 refine mv d rfl (Lw.ln x1 (X.ul a4) rfl (Lw.t rfl (T.bs 3 [vI (x1.length : Int)] (cs := [vI (x1.length : Int)]) rfl rfl (bsv rfl)) ?_))
 rintro _ _ ⟨g6, W6, rfl, rfl, l6, b6⟩
 have a7 := a4.n l6
 obtain ⟨q9, c6, hm⟩ := ob hm
 refine Lw.t rfl (T.app1S (α := Int) (K' := []) (c3.up l6) b6 (rdI _) rfl rfl c6) ?_
 rintro O _ ⟨fi, rfl, c7, c8⟩
 have ay := a7.t c7
 refine mv b rfl (mv e rfl (cr hm (fun _ => p173 (k0 := 4) (z.ul ay) (Y.ul ay)) ?_))
 rintro fj fm fn hm b3 ⟨_, rfl, c9⟩
 have b4 := ay.n b3
 refine mv e rfl (Lw.ln x2 (Y.ul b4) rfl (Lw.t rfl (T.bs 5 [vI (x2.length : Int)] (cs := [vI (x2.length : Int)]) rfl rfl (bsv rfl)) ?_))
 rintro _ _ ⟨fo, fp, rfl, rfl, az, da⟩
 have db := b4.n az
 obtain ⟨dc, dd, hm⟩ := ob hm
 refine Lw.t rfl (T.app1S (α := Int) (K' := []) (c9.up az) da (rdI _) rfl rfl dd) ?_
 rintro Z _ ⟨fq, rfl, b5, de⟩
 have df := db.t b5
 refine Gv O rfl (Nv Z rfl (sr (al 6 [.slice none 0 0] fun f b7 a0 dg => ?_)))
 have dh := df.n a0
 have b8 := (((c8.up b3).up az).up b5).up a0
 refine nl (sr (Lw.r rfl (R.mkF (vs := [ptr (bx f)]) rfl) (Nv (.func (.func 174) #[] [ptr (bx f)].toArray) rfl (sr (Gi rfl (Gi rfl (Ni rfl (ssr (mv O rfl (Lw.ln q9 b8.rd rfl (mi rfl (nl (Cw.block ?_)))))))))))))
 obtain ⟨di, dj, hm⟩ := jn_e hm
 refine Cw.loop 35 120 [11, 12, 13, 14, 15, 16, 17, 35] (fun m l w => ∃ k h i a I b9 a1 a2 a3 A x, CW.w x = w ∧ Le [6, 7, 8, 9, 10] b7 x ∧ l = [vI k, vI h, vI i, b9, a1, a2, a3, vI a] ∧ Ow x 7 [] [A] I ∧ Bx x 6 f [A] ∧ Vm.impl_mergeOf_l1 x0 x1 x2 q9 dc di m k h i a I = some r) _ ⟨0, 0, 0, 0, ([] : List Part), undef, undef, undef, undef, .slice none 0 0, b7, rfl, Le.refl _ _, rfl, owN 7 [], dg, hm⟩ ?_
 rintro (_ | fr) _ _ σ ⟨k, h, i, a, I, b9, a1, a2, a3, A, x, rfl, aa, rfl, a5, a6, hm⟩
 ·cases hm
 unfold Vm.impl_mergeOf_l1 at hm
 have cb := dh.t aa
 have a8 := b8.up aa
 have a9 := (de.up a0).up aa
 refine sr (Lw.lt rfl (nl (Cw.seq (cn hm (fun hm => ?_) fun hm => ?_))))
 ·refine sk ?_
  obtain ⟨dk, dl, hm⟩ := jn_e hm
  refine Cw.join 37 119 [11, 12, 13, 14, 15, 16, 17] (fun l w => ∃ ac ae af ah ba bb bc be ai K, CW.w K = w ∧ Le [6, 7, 8, 9, 10] x K ∧ l = [vI ac, vI ae, vI af, ba, bb, bc, be] ∧ Ow K 7 [] [ai] ah ∧ Bx K 6 f [ai] ∧ dk ac ae af ah = some r) ?_ ?_
  ·rintro _ _ σ ⟨ac, ae, af, ah, ba, bb, bc, be, ai, K, rfl, dm, rfl, dn, dp, hm⟩
   rw [dl] at hm
   exact rg (Lw.add rfl (mi rfl (nl ((agm) ⟨ac, ae, af, w64 (a + 1), ah, ba, bb, bc, be, ai, K, rfl, (aa.j dm).w, rfl, dn, dp, hm⟩))))
  ·refine Cw.block (sr (mi rfl (Ni rfl (Cw.seq ?_))))
   obtain ⟨dq, dr, hm⟩ := jn_e hm
   refine Cw.join 38 49 [49] (fun l w => ∃ bg aj, CW.w aj = w ∧ Le [] x aj ∧ l = [vB bg] ∧ dq bg = some r) ?_ ?_
   ·rintro _ _ σ ⟨bg, aj, rfl, y, rfl, hm⟩
    rw [dr] at hm
    have ds := cb.n y
    refine cn hm (fun hm => ?_) fun hm => ?_
    ·exact Cw.exit ((ag) ⟨k, h, i, I, vI a, a1, a2, a3, A, aj, rfl, y.w, rfl, (a5.up y), (a6.up y), hm⟩)
    ·refine sk (Cw.seq (Cw.draw [] [(0, 0), (1, 0), (2, 0), (3, 0), (4, 0), (5, 0), (6, 0), (7, 0), (8, 0), (9, 1), (10, 0), (11, 0), (12, 0), (13, 0), (14, 0), (15, 0), (16, 1), (17, 0), (18, 0), (19, 0), (20, 0)] mixed (by kernel_rfl) fun cc L => ?_))
     have B := ds.n L
     have ak := (a8.up y).up L
     have am := (a9.up y).up L
     refine Dv b rfl (Di rfl (Di rfl ?_))
     obtain ⟨fs, cd, hm⟩ := ob hm
     have r103 := (z.ul B).cutV cd
     refine Mw.p rfl rfl (fun _ => R.sl (z.ul B) cd rfl (.inr rfl) (.inr rfl)) (Dv d rfl (Di rfl (Dv O rfl (Di rfl ?_))))
     obtain ⟨C, bh, hm⟩ := ob hm
     refine Mw.p rfl rfl (fun _ => R.ix (α := Int) ak.rd bh rfl rfl rfl) (Mw.q rfl rfl (fun _ c => R.ld rfl rfl (cl_cell (ak.rd.at_ bh).1 rfl (ak.rd.at_ bh).int c)) ?_)
     obtain ⟨ft, ce, hm⟩ := ob hm
     have r110 := (X.ul B).cutV ce
     refine Mw.p rfl rfl (fun _ => R.sl (X.ul B) ce rfl (.inr rfl) (.inr rfl)) (Dv e rfl (Di rfl (Dv Z rfl (Di rfl ?_))))
     obtain ⟨D, bi, hm⟩ := ob hm
     refine Mw.p rfl rfl (fun _ => R.ix (α := Int) am.rd bi rfl rfl rfl) (Mw.q rfl rfl (fun _ c => R.ld rfl rfl (cl_cell (am.rd.at_ bi).1 rfl (am.rd.at_ bi).int c)) ?_)
     obtain ⟨fu, cf, hm⟩ := ob hm
     have r117 := (Y.ul B).cutV cf
     refine Mw.p rfl rfl (fun _ => R.sl (Y.ul B) cf rfl (.inr rfl) (.inr rfl)) (Hv (cutV b (k : Int).toNat (a : Int).toNat (Rp.sz (Str))) rfl (Hv (cutV d (h : Int).toNat (C : Int).toNat (Rp.sz (Str))) rfl (Hv (cutV e (i : Int).toNat (D : Int).toNat (Rp.sz (Str))) rfl (Mw.nil ?_))))
     obtain ⟨dt, du, hm⟩ := jn_e hm
     refine Cw.join 68 96 [] (fun l w => ∃ P an E, CW.w E = w ∧ Le [6, 7, 8, 9, 10] cc E ∧ l = [] ∧ Ow E 7 [] [an] P ∧ Bx E 6 f [an] ∧ dt P = some r) ?_ ?_
     ·rintro _ _ σ ⟨P, an, E, rfl, ao, rfl, cg, ch, hm⟩
      rw [du] at hm
      have bj := B.t ao
      obtain ⟨dv, dw, hm⟩ := jn_e hm
      refine Cw.join 97 107 [] (fun l w => ∃ ap aq Q, CW.w Q = w ∧ Le [6, 7] E Q ∧ l = [] ∧ Ow Q 7 [] [aq] ap ∧ Bx Q 6 f [aq] ∧ dv ap = some r) ?_ ?_
      ·rintro _ _ σ ⟨ap, aq, Q, rfl, bk, rfl, dx, dy, hm⟩
       rw [dw] at hm
       refine Cw.draw [] [(0, 0), (1, 0), (2, 0), (3, 0), (4, 0), (5, 1), (6, 0), (7, 0), (8, 0), (9, 0), (10, 1), (11, 0), (12, 0), (13, 0), (14, 0)] mixed (by kernel_rfl) fun dz S => ?_
       have bl := ((ak.up ao).up bk).up S
       have bm := ((am.up ao).up bk).up S
       refine Di rfl (Mw.p rfl rfl (fun _ => R.add rfl rfl) (Dv O rfl (Di rfl ?_)))
       obtain ⟨d0, bn, hm⟩ := ob hm
       refine Mw.p rfl rfl (fun _ => R.ix (α := Int) bl.rd bn rfl rfl rfl) (Mw.q rfl rfl (fun _ c => R.ld rfl rfl (cl_cell (bl.rd.at_ bn).1 rfl (bl.rd.at_ bn).int c)) (Mw.p rfl rfl (fun _ => R.add rfl rfl) (Dv Z rfl (Di rfl ?_))))
       obtain ⟨d1, bp, hm⟩ := ob hm
       exact Mw.p rfl rfl (fun _ => R.ix (α := Int) bm.rd bp rfl rfl rfl) (Mw.q rfl rfl (fun _ c => R.ld rfl rfl (cl_cell (bm.rd.at_ bp).1 rfl (bm.rd.at_ bp).int c)) (Mw.p rfl rfl (fun _ => R.add rfl rfl) (Hi rfl (Hi rfl (Hi rfl (Mw.nil ((ag) ⟨w64 (a + 1), w64 (d0 + 1), w64 (d1 + 1), ap, vI a, (cutV b (k : Int).toNat (a : Int).toNat (Rp.sz (Str))), (cutV d (h : Int).toNat (C : Int).toNat (Rp.sz (Str))), (cutV e (i : Int).toNat (D : Int).toNat (Rp.sz (Str))), aq, dz, rfl, ((((y.j L).j ao).j bk).j S).w, rfl, (dx.up S), (dy.up S), hm⟩)))))))
      ·refine sr (mi rfl (mv b rfl (Lw.ln x0 (z.ul bj) rfl (Lw.lt rfl (nl (cn hm (fun hm => ?_) fun hm => ?_))))))
       ·refine rg (mv (.func (.func 174) #[] [ptr (bx f)].toArray) rfl (mv b rfl (mi rfl (mi rfl (Lw.add rfl ?_)))))
        obtain ⟨fv, ci, hm⟩ := ob hm
        have r157 := (z.ul bj).cutV ci
        refine Lw.r rfl (R.sl (z.ul bj) ci rfl (.inr rfl) (.inr rfl)) ?_
        obtain ⟨d2, d3, hm⟩ := ob hm
        refine Lw.t rfl (T.callV (vals := [(cutV b (a : Int).toNat (w64 (a + 1) : Int).toNat (Rp.sz (Str)))]) (caps := [ptr (bx f)]) rfl rfl (p174  (c0 := 6) (c1 := 7) (x1 := P) r157 ch cg rfl d3)) ?_
        rintro _ _ ⟨d4, rfl, d5, ⟨d6, rfl, d7, d8⟩⟩
        exact nl ((ag) ⟨d2, d6, d4, rfl, d5, rfl, d7, d8, hm⟩)
       ·exact sk ((ag) ⟨P, an, E, rfl, Le.refl _ _, rfl, cg, ch, hm⟩)
     ·refine Cw.block ?_
      obtain ⟨d9, ea, hm⟩ := jn_e hm
      refine Cw.join 78 86 [78] (fun l w => ∃ bq br, CW.w br = w ∧ Le [] cc br ∧ l = [vB bq] ∧ d9 bq = some r) ?_ ?_
      ·rintro _ _ σ ⟨bq, br, rfl, M, rfl, hm⟩
       rw [ea] at hm
       have ar := M.o
       have bu := ((a5.up y).up L).up M
       have bv := ((a6.up y).up L).up M
       refine cn hm (fun hm => ?_) fun hm => ?_
       ·refine rg (mv (.func (.func 174) #[] [ptr (bx f)].toArray) rfl (mv (cutV e (i : Int).toNat (D : Int).toNat (Rp.sz (Str))) rfl ?_))
        obtain ⟨eb, ec, hm⟩ := ob hm
        refine Lw.t rfl (T.callV (vals := [(cutV e (i : Int).toNat (D : Int).toNat (Rp.sz (Str)))]) (caps := [ptr (bx f)]) rfl rfl (p174  (c0 := 6) (c1 := 7) (x1 := I) (r117.ul ar) bv bu rfl ec)) ?_
        rintro _ _ ⟨ed, rfl, ee, ⟨ef, rfl, eg, eh⟩⟩
        exact nl ((ag) ⟨eb, ef, ed, rfl, (M.j ee).w, rfl, eg, eh, hm⟩)
       ·refine sr (mv (cutV e (i : Int).toNat (D : Int).toNat (Rp.sz (Str))) rfl (mv (cutV b (k : Int).toNat (a : Int).toNat (Rp.sz (Str))) rfl (ca hm (fun _ => p140 (r117.ul ar) (r103.ul ar)) fun fw fx hm F => ?_)))
        have cj := ar.n F
        refine Nb rfl (cn hm (fun hm => ?_) fun hm => ?_)
        ·refine rg (mv (.func (.func 174) #[] [ptr (bx f)].toArray) rfl (mv (cutV d (h : Int).toNat (C : Int).toNat (Rp.sz (Str))) rfl ?_))
         obtain ⟨ei, ej, hm⟩ := ob hm
         refine Lw.t rfl (T.callV (vals := [(cutV d (h : Int).toNat (C : Int).toNat (Rp.sz (Str)))]) (caps := [ptr (bx f)]) rfl rfl (p174  (c0 := 6) (c1 := 7) (x1 := I) (r110.ul cj) (bv.up F) (bu.up F) rfl ej)) ?_
         rintro _ _ ⟨ek, rfl, el, ⟨em, rfl, en, eo⟩⟩
         exact nl ((ag) ⟨ei, em, ek, rfl, ((M.j F).j el).w, rfl, en, eo, hm⟩)
        ·refine Cw.draw [] [(0, 1), (1, 0), (3, 0), (5, 0), (2, 2), (4, 2), (6, 2), (7, 0), (8, 2), (9, 3), (10, 3)] mixed (by kernel_rfl) fun fy au => ?_
         have ck := cj.n au
         have cl := (bv.up F).up au
         refine Mw.q rfl rfl (fun _ c => R.ld (v := A) rfl rfl (cl.clc0 rfl rfl c)) (Dv (cutV b (k : Int).toNat (a : Int).toNat (Rp.sz (Str))) rfl (Dv (cutV d (h : Int).toNat (C : Int).toNat (Rp.sz (Str))) rfl (Dv (cutV e (i : Int).toNat (D : Int).toNat (Rp.sz (Str))) rfl ?_)))
         obtain ⟨ep, er, hm⟩ := ob hm
         refine Mw.t rfl rfl (T.call rfl (p105 (k0 := 8) (r103.ul ck) er)) ?_
         rintro av _ ⟨fz, rfl, U, ⟨_, rfl, es⟩⟩
         have cm := ck.n U
         refine m0 U fun et => ?_
         obtain ⟨eu, ew, hm⟩ := ob hm
         refine Mw.t rfl rfl (T.call rfl (p105 (k0 := 9) (r110.ul cm) ew)) ?_
         rintro aw _ ⟨f0, rfl, N, ⟨_, rfl, co⟩⟩
         have ex := cm.n N
         refine mc et N fun ey => ?_
         obtain ⟨ez, e0, hm⟩ := ob hm
         refine Mw.t rfl rfl (T.call rfl (p105 (k0 := 10) (r117.ul ex) e0)) ?_
         rintro ax _ ⟨f1, rfl, G, ⟨_, rfl, cp⟩⟩
         have cq := (es.up N).up G
         refine mc ey G fun e1 => Mw.p rfl rfl (fun _ => R.bd (zs := [vB false, .slice none 0 0, .slice none 0 0, .slice none 0 0, .slice none 0 0]) (cs := [vB true, .slice none 0 0, av, aw, ax]) [(0, vB true), (2, av), (3, aw), (4, ax)] rfl rfl rfl (bp_cons rfl rfl (bp_cons cq.oc rfl (bp_cons (co.up G).oc rfl (bp_cons cp.oc rfl bp_nil))))) (Mw.t rfl rfl (T.bs 11 [.agg [vB true, .slice none 0 0, av, aw, ax].toArray] (cs := [vB true, .slice none 0 0, av, aw, ax]) rfl rfl (bsA rfl)) ?_)
         rintro _ _ ⟨f2, f3, rfl, rfl, H, e2⟩
         refine mc e1 H fun f4 => ?_
         obtain ⟨e3, e4, hm⟩ := ob hm
         refine Mw.l rfl rfl (T.app1 (α := Part) (J := [8, 9, 10]) (K' := []) ((((((bu.up F).up au).up U).up N).up G).up H) e2 (Part.own true ([] : List Str) ep eu ez (owsN []) (cq.up H).s ((co.up G).up H).s (cp.up H).s) rfl rfl e4) ?_
         rintro ct _ ⟨f5, rfl, cu, cv⟩
         refine Mw.lu rfl (T.st0 (v := ct) (((((cl.up U).up N).up G).up H).up cu) rfl rfl cv.oc rfl rfl) ?_
         rintro _ _ ⟨e5, rfl, cw, e6⟩
         exact Mw.nil ((ag) ⟨e3, ct, e5, rfl, ((((((((M.j F).j au).j U).j N).j G).j H).j cu).j cw).w, rfl, (cv.up cw), e6, hm⟩)
      ·refine rg (mv (cutV d (h : Int).toNat (C : Int).toNat (Rp.sz (Str))) rfl (mv (cutV b (k : Int).toNat (a : Int).toNat (Rp.sz (Str))) rfl (ca hm (fun _ => p140 r110 r103) fun f6 e7 hm bw => ?_)))
       have cx := bw.o
       refine mb rfl (bs hm (fun V hm => ?_) fun V hm => ?_)
       ·exact psk 3 V rfl (Pb V rfl (Nb rfl ((ag) ⟨true, e7, rfl, bw, rfl, hm⟩)))
       ·exact wak 3 V (mv (cutV d (h : Int).toNat (C : Int).toNat (Rp.sz (Str))) rfl (mv (cutV e (i : Int).toNat (D : Int).toNat (Rp.sz (Str))) rfl (ca hm (fun _ => p140 (r110.ul cx) (r117.ul cx)) fun e8 e9 hm fb => Pb V rfl (Nb rfl ((ag) ⟨e8, e9, rfl, (bw.j fb).w, rfl, hm⟩)))))
   ·refine rg (mv O rfl (mi rfl ?_))
    obtain ⟨f7, cy, hm⟩ := ob hm
    refine Lw.r rfl (R.ix (α := Int) a8.rd cy rfl rfl rfl) (Lw.r rfl (R.ld rfl rfl (a8.rd.at_ cy).int) (Lw.lt rfl (mb rfl (bs hm (fun W hm => ?_) fun W hm => ?_))))
    ·exact psk 5 W rfl (Pb W rfl (nl ((ag) ⟨true, x, rfl, Le.refl _ _, rfl, hm⟩)))
    ·refine wak 5 W (mv Z rfl (mi rfl ?_))
     obtain ⟨fc, cz, hm⟩ := ob hm
     exact Lw.r rfl (R.ix (α := Int) a9.rd cz rfl rfl rfl) (Lw.r rfl (R.ld rfl rfl (a9.rd.at_ cz).int) (Lw.lt rfl (Pb W rfl (nl ((ag) ⟨decide ((fc : Int) < (0 : Int)), x, rfl, Le.refl _ _, rfl, hm⟩)))))
 ·refine Cw.exit ?_
  rw [dj] at hm
  refine sr (lz a6 rfl (Nv A rfl ?_))
  cases hm
  exact Cw.ret (ret1 rfl (Res.mk cb ⟨A, rfl, a5.s.sub rfl rfl⟩))
theorem p161 {x0 b x1 d x2 f k0 r} (h : Rd W K [b] x0) (i : Rd W K [d] x1) (k : Rd W K [f] x2) (hm : Vm.impl_mergeOf x0 x1 x2 = some r) : Q1 161 [b, d, f] W [] fun W' v => ∃ a, v = a ∧ Ow W' k0 [] [a] r :=
 (c161 (h.view _) (i.view _) (k.view _) hm).ad (fk k0) fun _ _ ⟨a, e, x⟩ => ⟨a, e, x.back (fk_LL _)⟩
theorem c142 {x0 a b d e r} (i : Rd W0 [0] [vB x0.Clash, a, b, d, e] x0) (hm : Vm.impl_MergeText_c1 x0 = some r) : Q0 142 [.agg [vB x0.Clash, a, b, d, e].toArray] W0 fun Wf v => ∃ f, v = .tuple [f, vB r.2].toArray ∧ OwS Wf LL [] [f] r.1 := by
 unfold Vm.impl_MergeText_c1 at hm
 obtain ⟨y, z, A, B, h, C, D, E, F⟩ := Part.split i
 simp only [List.cons.injEq, and_true, true_and] at h
 obtain ⟨rfl, rfl, rfl, rfl⟩ := h
 refine CallR.of Tryz.func142 rfl rfl rfl rfl (sr (bo 2 rfl fun G H k I => ?_))
 have x := k.o
 refine Gv (.slice none 0 0) rfl (Nb rfl (sr (Gv (.slice none 0 0) rfl (Nb rfl ?_))))
 cases hm
 exact Cw.ret (ret2 rfl rfl (Res.mk x ⟨.slice none 0 0, rfl, (owsN []).sub rfl rfl⟩))
theorem p142 {x0 b d f h k0 r} (i : Rd W K [vB x0.Clash, b, d, f, h] x0) (hm : Vm.impl_MergeText_c1 x0 = some r) : Q1 142 [.agg [vB x0.Clash, b, d, f, h].toArray] W [] fun W' v => ∃ a, v = .tuple [a, vB r.2].toArray ∧ Ow W' k0 [] [a] r.1 :=
 (c142 (i.view _) hm).ad (fk k0) fun _ _ ⟨a, e, k⟩ => ⟨a, e, k.back (fk_LL _)⟩
end Go.Sx
