/- Walks: each function answers as its model, printed by a program of ours. Conditions: the arguments read as they are given. -/
import Derived.Test.YtnjcbcngjmkajaaGreatDoorETs
import Derived.Test.YtnjcbcngjmkajaaGreatDoorEM0
import Derived.Test.YtnjcbcngjmkajaaGreatDoorEW1
import Derived.Test.YtnjcbcngjmkajaaGreatDoorEW2
namespace Go.Sx
open Go Go.Proofs Go.Vm Rp
set_option linter.unusedVariables false
set_option linter.unusedSimpArgs false
variable {W W0 : CW} {K : List Nat}
theorem c105 {x0 W X x1 x2 r} (h0 : Rd W0 [0] [W, X] x0) (hm : Vm.zby x0 x1 x2 = some r) : Q0 105 [.agg [W, X].toArray, vS x1, vI x2] W0 fun Wf v => ∃ Y Z, v = .tuple [.agg [Y, Z].toArray, vB r.2].toArray ∧ Rd Wf [0] [Y] r.1.Commits ∧ Rd Wf [0] [Z] r.1.Heads := by
 unfold Vm.zby at hm
 obtain ⟨cl, cm, aa, y, z⟩ := Repo.split h0
 simp only [List.cons.injEq, and_true, true_and] at aa
 obtain ⟨rfl, rfl⟩ := aa
 refine zap.of Tryz.func105 rfl rfl rfl rfl (sr (bo 2 rfl fun g1 W1 l1 b1 => ?_))
 have a2 := l1.o
 refine al 3 [.slice none 0 0, .slice none 0 0] fun g3 W3 E b3 => ?_
 have F := a2.n E
 refine Nb rfl (ssr (la (b1.up E) (ca hm (fun _ => p23 (Repo.rd (K := [0]) x0.Commits x0.Heads (y.ul F) (z.ul F))) fun z8 cv hm l10 => ?_)))
 have A := F.n l10
 have af := (b1.up E).up l10
 refine Lw.r rfl (R.not rfl) (nl (cn hm (fun hm => ?_) fun hm => ?_))
 ·refine sr (Lw.r rfl (R.bd (zs := [.slice none 0 0, .slice none 0 0]) (cs := [.slice none 0 0, .slice none 0 0]) [] rfl rfl rfl zcU) (sta (b3.up l10) (zaa rfl (zaa rfl zaw)) fun cw a1 a3 => ?_))
  have a5 := A.t a1
  refine Nb rfl ?_
  cases hm
  exact Cw.ret (zeM rfl a3 rfl (Res.mk a5 ⟨.slice none 0 0, .slice none 0 0, rfl, (rdN (K := [0])), (rdN (K := [0]))⟩))
 ·refine sk (sr (la af (cr hm (fun _ => p59 (k0 := 4) (k1 := 5) (Repo.rd (K := [0]) x0.Commits x0.Heads (y.ul A) (z.ul A))) ?_)))
  rintro e _ cx hm G ⟨a6, a7, rfl, ah, ai⟩
  have a8 := A.n G
  refine ms rfl (mi rfl (cr hm (fun _ => p122 (K := [4, 5]) (x0 := (Vm.Repo.mk e.Commits e.Heads)) (Repo.rd (K := [4, 5]) e.Commits e.Heads (ah.rd.sub (M := [4, 5]) rfl) (ai.rd.sub (M := [4, 5]) rfl))) ?_))
  rintro f _ cy hm h ⟨H, I, rfl, a9, ba⟩
  have B := a9.sub (M := [0, 4, 5]) rfl
  have C := ba.sub (M := [0, 4, 5]) rfl
  have bb := a8.n h
  refine al 6 [.slice none 0 0, .slice none 0 0] fun cz c0 a bc => ?_
  have be := bb.n a
  refine sta bc (zaa B.oc (zaa C.oc zaw)) fun bg b aj => ?_
  have J := be.t b
  have ak := (((af.up G).up h).up a).up b
  refine nl (Cw.seq ?_)
  obtain ⟨bh, bi, hm⟩ := za1 hm
  refine Cw.join 18 26 [26] (fun l w => ∃ L N, CW.w N = w ∧ Le [] bg N ∧ l = [vB L] ∧ bh L = some r) ?_ ?_
  ·rintro _ _ σ ⟨L, N, rfl, d, rfl, hm⟩
   rw [bi] at hm
   have D := J.n d
   have am := (((((b3.up l10).up G).up h).up a).up b).up d
   refine cn hm (fun hm => ?_) fun hm => ?_
   ·refine sr (la (ak.up d) (cr hm (fun _ => p59 (k0 := 7) (k1 := 8) (Repo.rd (K := [0]) x0.Commits x0.Heads (y.ul D) (z.ul D))) ?_))
    rintro an _ c1 hm ao ⟨ap, aq, rfl, ar, au⟩
    have bj := D.n ao
    refine sta (am.up ao) (zaa ar.oc (zaa au.oc zaw)) fun c2 O bk => ?_
    have bl := bj.t O
    refine Nb rfl ?_
    obtain ⟨bm, bn, P, bp⟩ := zgW _ 7
    have bq : Rd (α := List Vm.Commit) bm [0] [ap] an.Commits := by rw [bp]; exact ((ar.up O).rd.dye 7).sub (M := [0]) rfl
    have br := bl.t P
    obtain ⟨bu, bv, av, bw⟩ := zgW _ 8
    have bz : Rd (α := List Vm.Head) bu [0] [aq] an.Heads := by rw [bw]; exact (((au.up O).up P).rd.dye 8).sub (M := [0]) rfl
    have aw := av.s
    cases hm
    rw [← bv.trans (bn)]
    exact Cw.ret (zeM rfl ((bk.up P).up av) rfl (Res.mk (br.trans aw) ⟨ap, aq, rfl, (bq.ul aw), bz⟩))
   ·refine sk (sr (la (aj.up d) (sta am (zaa B.oc (zaa C.oc zaw)) fun c3 i b0 => ?_)))
    have b2 := D.t i
    refine Nb rfl ?_
    have b4 := B.up ((a.sub (M := [3, 6]) rfl).trans ((b.sub (M := [3, 6]) rfl).trans ((d.sub (M := [3, 6]) rfl).trans (i.sub (M := [3, 6]) rfl)))) rfl
    have b5 := C.up ((a.sub (M := [3, 6]) rfl).trans ((b.sub (M := [3, 6]) rfl).trans ((d.sub (M := [3, 6]) rfl).trans (i.sub (M := [3, 6]) rfl)))) rfl
    obtain ⟨Q, b6, S, T⟩ := zgW _ 4
    have b7 : Rd Q [0, 5] [H] f.Commits := by rw [T]; exact (b4.dye 4).sub (M := [0, 5]) rfl
    have b8 : Rd Q [0, 5] [I] f.Heads := by rw [T]; exact (b5.dye 4).sub (M := [0, 5]) rfl
    have c4 : Rd (α := List Vm.Commit) Q [0] [a6] e.Commits := by rw [T]; exact ((((((ah.up h).up a).up b).up d).up i).rd.dye 4).sub (M := [0]) rfl
    have b9 := b2.t S
    obtain ⟨U, cb, ax, V⟩ := zgW _ 5
    have cc : Rd U [0] [H] f.Commits := by rw [V]; exact (b7.dye 5).sub (M := [0]) rfl
    have cd : Rd U [0] [I] f.Heads := by rw [V]; exact (b8.dye 5).sub (M := [0]) rfl
    have c5 : Rd (α := List Vm.Head) U [0] [a7] e.Heads := by rw [V]; exact (((((((ai.up h).up a).up b).up d).up i).up S).rd.dye 5).sub (M := [0]) rfl
    have ce := b9.t ax
    cases hm
    rw [← cb.trans (b6)]
    exact Cw.ret (zeM rfl ((b0.up S).up ax) rfl (Res.mk ce ⟨H, I, rfl, cc, cd⟩))
  ·refine rg (la ak (ms rfl (ca hm (fun _ => p100 (Repo.rd (K := [0]) x0.Commits x0.Heads (y.ul J) (z.ul J))) fun c6 cf hm k => Lw.ge rfl (mb rfl (bs hm (fun x hm => ?_) fun x hm => ?_)))))
   ·exact psk 3 x rfl (Pb x rfl (nl ((ag) ⟨true, cf, rfl, k, rfl, hm⟩)))
   ·refine wak 3 x (la (aj.up k) ?_)
    have cg := B.up ((a.sub (M := [6]) rfl).trans ((b.sub (M := [6]) rfl).trans (k.sub (M := [6]) rfl))) rfl
    have ch := C.up ((a.sub (M := [6]) rfl).trans ((b.sub (M := [6]) rfl).trans (k.sub (M := [6]) rfl))) rfl
    exact ca hm (fun _ => p23 (K := [0, 4, 5]) (Repo.rd (K := [0, 4, 5]) f.Commits f.Heads cg ch)) fun ci cj hm ck => Lw.r rfl (R.not rfl) (Pb x rfl (nl ((ag) ⟨(!ci), cj, rfl, (k.j ck).w, rfl, hm⟩)))
theorem p105 {x0 d f x1 x2 r} (h : Rd W K [d, f] x0) (hm : Vm.zby x0 x1 x2 = some r) : Q1 105 [.agg [d, f].toArray, vS x1, vI x2] W [] fun W' v => ∃ a b, v = .tuple [.agg [a, b].toArray, vB r.2].toArray ∧ Rd W' (0 :: K) [a] r.1.Commits ∧ Rd W' (0 :: K) [b] r.1.Heads :=
 (c105 (h.view _) hm).ad (fk 0) fun _ _ ⟨a, b, e, i, k⟩ => ⟨a, b, e, i.back rfl, k.back rfl⟩
theorem c133 {x0 Q S x1 r} (h0 : Rd W0 [0] [Q, S] x0) (hm : Vm.zdi x0 x1 = some r) : Q0 133 [.agg [Q, S].toArray, vI x1] W0 fun Wf v => ∃ U, v = U ∧ OwS Wf LL [] [U] r := by
 unfold Vm.zdi at hm
 obtain ⟨b9, cb, V, k, cc⟩ := Repo.split h0
 simp only [List.cons.injEq, and_true, true_and] at V
 obtain ⟨rfl, rfl⟩ := V
 refine zap.of Tryz.func133 rfl rfl rfl rfl (sr (bo 2 rfl fun g1 W1 l1 W => ?_))
 have X := l1.o
 refine Nv (.slice none 0 0) rfl (sr (fl W rfl (Lw.ln x0.Commits (k.ul X) rfl ?_)))
 obtain ⟨q4, e5, hm⟩ := ob hm
 refine Lw.t rfl (T.mk (α := Bool) 3 [] (n := (x0.Commits.length : Int)) rfl rfl e5) ?_
 rintro a _ ⟨W6, rfl, Y, Z⟩
 have a7 := X.n Y
 refine Nv a rfl (sr (mv a rfl (mi rfl ?_)))
 obtain ⟨u9, a1, hm⟩ := ob hm
 refine Lw.r rfl (R.ix (α := Bool) Z.rd a1 rfl rfl rfl) ?_
 obtain ⟨a3, a4, hm⟩ := ob hm
 refine Lw.u (T.stS (K' := []) Z (rdB _) a4 rfl rfl rfl) ?_
 rintro _ _ ⟨aa, rfl, ac, a5⟩
 have a6 := a7.t ac
 refine nl (ssr (mi rfl (Ni rfl (Cw.block ?_))))
 obtain ⟨a8, a9, hm⟩ := za1 hm
 refine Cw.loop 18 49 [6, 7] (fun m l w => ∃ x e ae f, CW.w f = w ∧ Le [3] aa f ∧ l = [vI x, ae] ∧ Ow f 3 [] [a] e ∧ Vm.zbJ x0 a8 m x e = some r) _ ⟨x1, a3, undef, aa, rfl, Le.refl _ _, rfl, a5, hm⟩ ?_
 rintro (_ | ci) _ _ σ ⟨x, e, ae, f, rfl, I, rfl, af, hm⟩
 ·cases hm
 unfold Vm.zbJ at hm
 have ah := a6.t I
 refine ssr (mi rfl (Lw.ge rfl (nl (cn hm (fun hm => ?_) fun hm => ?_))))
 ·refine sk (Cw.seq (Cw.block (sr (Ni rfl (Cw.block ?_)))))
  obtain ⟨ba, bb, hm⟩ := za1 hm
  refine Cw.loop 22 49 [7] (fun m l w => ∃ y C d, CW.w d = w ∧ Le [3] f d ∧ l = [vI y] ∧ Ow d 3 [] [a] C ∧ Vm.zcy x0 x ba m y C = some r) _ ⟨0, e, f, rfl, Le.refl _ _, rfl, af, hm⟩ ?_
  rintro (_ | cj) _ _ σ ⟨y, C, d, rfl, D, rfl, J, hm⟩
  ·cases hm
  unfold Vm.zcy at hm
  have K := ah.t D
  have ai := (((W.up Y).up ac).up I).up D
  refine Cw.seq ?_
  obtain ⟨bc, be, hm⟩ := za1 hm
  refine Cw.join 22 36 [36] (fun l w => ∃ L E, CW.w E = w ∧ Le [] d E ∧ l = [vB L] ∧ bc L = some r) ?_ ?_
  ·rintro _ _ σ ⟨L, E, rfl, z, rfl, hm⟩
   rw [be] at hm
   have aj := K.n z
   have M := J.up z
   refine cn hm (fun hm => ?_) fun hm => ?_
   ·refine sk (Cw.seq (Cw.block (rg (mv a rfl (fl (ai.up z) rfl (mi rfl ?_))))))
    obtain ⟨ck, ak, hm⟩ := ob hm
    refine Lw.r rfl (R.ix (α := Commit) (k.ul aj) ak rfl rfl rfl) (Lw.fa rfl ?_)
    obtain ⟨cl, c45, r46⟩ := (Commit.at0 ((k.ul aj).at_ ak)).cell rfl
    refine Lw.r rfl (R.ld rfl rfl c45) (mi rfl ?_)
    obtain ⟨cm, am, hm⟩ := ob hm
    refine Lw.r rfl (R.ix (α := Int) r46 am rfl rfl rfl) (Lw.r rfl (R.ld rfl rfl (r46.at_ am).int) ?_)
    obtain ⟨co, bg, hm⟩ := ob hm
    refine Lw.r rfl (R.ix (α := Bool) M.rd bg rfl rfl rfl) ?_
    obtain ⟨bh, bi, hm⟩ := ob hm
    refine Lw.u (T.stS (K' := []) M (rdB _) bi rfl rfl rfl) ?_
    rintro _ _ ⟨bj, rfl, bk, bl⟩
    exact nl (rg (mi rfl (Lw.add rfl (Ni rfl ((agm) ⟨w64 (y + 1), bh, bj, rfl, ((D.j z).j bk).w, rfl, bl, hm⟩)))))
   ·refine Cw.exit ?_
    rw [bb] at hm
    exact rg (mi rfl (Lw.sub rfl (Ni rfl ((agm) ⟨w64 (x - 1), C, vI y, E, rfl, ((I.j D).j z).w, rfl, M, hm⟩))))
  ·refine rg (mi rfl (fl ai rfl (mi rfl ?_)))
   obtain ⟨bm, an, hm⟩ := ob hm
   refine Lw.r rfl (R.ix (α := Commit) (k.ul K) an rfl rfl rfl) (Lw.fa rfl ?_)
   obtain ⟨cp, c60, r61⟩ := (Commit.at0 ((k.ul K).at_ an)).cell rfl
   refine Lw.r rfl (R.ld rfl rfl c60) (Lw.ln bm.Parents r61 rfl (Lw.lt rfl (mb rfl (bs hm (fun A hm => ?_) fun A hm => ?_))))
   ·refine wak 4 A (mv a rfl (mi rfl ?_))
    obtain ⟨bn, ao, hm⟩ := ob hm
    exact Lw.r rfl (R.ix (α := Bool) J.rd ao rfl rfl rfl) (Lw.r rfl (R.ld rfl rfl (J.rd.at_ ao).bool) (Pb A rfl (nl ((ag) ⟨bn, d, rfl, Le.refl _ _, rfl, hm⟩))))
   ·exact psk 4 A rfl (Pb A rfl (nl ((ag) ⟨false, d, rfl, Le.refl _ _, rfl, hm⟩)))
 ·refine Cw.exit ?_
  rw [a9] at hm
  refine sr (Lw.t rfl (T.lit0 (α := Int) 4 []) ?_)
  rintro ap _ ⟨aq, rfl, ar, bp⟩
  have bq := ah.n ar
  refine Nv ap rfl (ssr (Ni rfl (Cw.block ?_)))
  obtain ⟨br, bu, hm⟩ := za1 hm
  refine Cw.loop 51 64 [8, 9] (fun m l w => ∃ F h b i, CW.w i = w ∧ Le [4] aq i ∧ l = [b, vI h] ∧ Ow i 4 [] [b] F ∧ Vm.zbI e br m F h = some r) _ ⟨([] : List Int), 0, ap, aq, rfl, Le.refl _ _, rfl, bp, hm⟩ ?_
  rintro (_ | cq) _ _ σ ⟨F, h, b, i, rfl, N, rfl, O, hm⟩
  ·cases hm
  unfold Vm.zbI at hm
  have bv := bq.t N
  have P := (af.up ar).up N
  refine ssr (mi rfl (mv a rfl (Lw.ln e P.rd rfl (Lw.lt rfl (nl (cn hm (fun hm => ?_) fun hm => ?_))))))
  ·refine sk ?_
   obtain ⟨bw, bz, hm⟩ := za1 hm
   refine Cw.join 57 64 [8] (fun l w => ∃ G H B, CW.w B = w ∧ Le [4] i B ∧ l = [H] ∧ Ow B 4 [] [H] G ∧ bw G = some r) ?_ ?_
   ·rintro _ _ σ ⟨G, H, B, rfl, b0, rfl, b2, hm⟩
    rw [bz] at hm
    exact rg (mi rfl (Lw.add rfl (Ni rfl ((agm) ⟨G, w64 (h + 1), H, B, rfl, (N.j b0).w, rfl, b2, hm⟩))))
   ·refine Cw.block (sr (mv a rfl (mi rfl ?_)))
    obtain ⟨ct, au, hm⟩ := ob hm
    refine Lw.r rfl (R.ix (α := Bool) P.rd au rfl rfl rfl) (Lw.r rfl (R.ld rfl rfl (P.rd.at_ au).bool) (nl (cn hm (fun hm => ?_) fun hm => ?_)))
    ·refine rg (mv b rfl (mi rfl (Lw.t rfl (T.bs 5 [vI h] (cs := [vI h]) rfl rfl (bsv rfl)) ?_)))
     rintro _ _ ⟨cu, cv, rfl, rfl, av, b3⟩
     obtain ⟨b4, b5, hm⟩ := ob hm
     refine Lw.t rfl (T.app1S (α := Int) (K' := []) (O.up av) b3 (rdI _) rfl rfl b5) ?_
     rintro aw _ ⟨b6, rfl, b7, b8⟩
     exact Nv aw rfl ((ag) ⟨b4, aw, b6, rfl, (av.j b7).w, rfl, b8, hm⟩)
    ·exact sk ((ag) ⟨F, b, i, rfl, Le.refl _ _, rfl, O, hm⟩)
  ·refine Cw.exit ?_
   rw [bu] at hm
   refine sr (mv b rfl (Nv b rfl ?_))
   cases hm
   exact Cw.ret (zhh rfl (Res.mk bv ⟨b, rfl, O.s.sub rfl rfl⟩))
theorem p133 {x0 b d x1 k0 r} (f : Rd W K [b, d] x0) (hm : Vm.zdi x0 x1 = some r) : Q1 133 [.agg [b, d].toArray, vI x1] W [] fun W' v => ∃ a, v = a ∧ Ow W' k0 [] [a] r :=
 (c133 (f.view _) hm).ad (fk k0) fun _ _ ⟨a, e, h⟩ => ⟨a, e, h.back (zhf _)⟩
theorem c132 {x0 a x1 r} (x : Rd W0 [0] [a] x0) (hm : Vm.zdS x0 x1 = some r) : Q0 132 [a, vI x1] W0 fun Wf v => v = vB r := by
 unfold Vm.zdS at hm
 refine zap.of Tryz.func132 rfl rfl rfl rfl (sr (Nb rfl (ssr (Ni rfl (Cw.block ?_)))))
 obtain ⟨y, z, hm⟩ := za1 hm
 refine Cw.loop 6 17 [4, 5] (fun m l w => ∃ b d e, CW.w e = w ∧ Le [] W0 e ∧ l = [vB b, vI d] ∧ Vm.zcz x0 x1 y m b d = some r) _ ⟨false, 0, W0, rfl, Le.refl _ _, rfl, hm⟩ ?_
 rintro (_ | A) _ _ σ ⟨b, d, e, rfl, i, rfl, hm⟩
 ·cases hm
 unfold Vm.zcz at hm
 have f := i.o
 refine ssr ?_
 have h := x.ul f
 refine mi rfl (mv a rfl (Lw.ln x0 h rfl (Lw.lt rfl (nl (cn hm (fun hm => ?_) fun hm => ?_)))))
 ·refine sk (Cw.seq (Cw.block (sr (mv a rfl (mi rfl ?_)))))
  obtain ⟨B, k, hm⟩ := ob hm
  refine Lw.r rfl (R.ix (α := Int) h k rfl rfl rfl) (Lw.r rfl (R.ld rfl rfl (h.at_ k).int) (mi rfl (Lw.eq rfl (nl (cn hm (fun hm => ?_) fun hm => ?_)))))
  ·exact sr (Nb rfl (.ret (rt hm f)))
  ·exact sk (rg (mi rfl (Lw.add rfl (Ni rfl ((agm) ⟨b, w64 (d + 1), e, rfl, i, rfl, hm⟩)))))
 ·refine Cw.exit ?_
  rw [z] at hm
  exact sr (Nb rfl (.ret (rt hm f)))
theorem p132 {x0 a x1 r} (b : Rd W K [a] x0) (hm : Vm.zdS x0 x1 = some r) : Q1 132 [a, vI x1] W [] fun W' v => v = vB r :=
 (c132 (b.view _) hm).ad (fk 0) fun _ _ e => e
theorem c141 {x0 V W x1 x2 r} (h0 : Rd W0 [0] [V, W] x0) (hm : Vm.zdX x0 x1 x2 = some r) : Q0 141 [.agg [V, W].toArray, vI x1, vI x2] W0 fun Wf v => ∃ u0, v = u0 ∧ OwS Wf LL [] [u0] r := by
 unfold Vm.zdX at hm
 obtain ⟨c2, c3, ar, X, Y⟩ := Repo.split h0
 simp only [List.cons.injEq, and_true, true_and] at ar
 obtain ⟨rfl, rfl⟩ := ar
 refine zap.of Tryz.func141 rfl rfl rfl rfl (sr (bo 2 rfl fun g1 W1 l1 Z => ?_))
 have a2 := l1.o
 refine Nv (.slice none 0 0) rfl (sr (la Z (mi rfl (cr hm (fun _ => p133 (k0 := 3) (Repo.rd (K := [0]) x0.Commits x0.Heads (X.ul a2) (Y.ul a2))) ?_))))
 rintro z5 H W7 hm l7 ⟨_, rfl, bm⟩
 have a8 := a2.n l7
 refine Nv H rfl (sr (la (Z.up l7) (mi rfl (cr hm (fun _ => p133 (k0 := 4) (Repo.rd (K := [0]) x0.Commits x0.Heads (X.ul a8) (Y.ul a8))) ?_))))
 rintro bn av c7 hm af ⟨_, rfl, bp⟩
 have bq := a8.n af
 refine Nv av rfl (sr (Lw.t rfl (T.lit0 (α := Int) 5 []) ?_))
 rintro aw _ ⟨ax, rfl, I, br⟩
 have bu := bq.n I
 refine Nv aw rfl (ssr (Ni rfl (Cw.block ?_)))
 obtain ⟨bv, bw, hm⟩ := za1 hm
 refine Cw.loop 22 40 [9, 10] (fun m l w => ∃ h J e B, CW.w B = w ∧ Le [5] ax B ∧ l = [e, vI J] ∧ Ow B 5 [] [e] h ∧ Vm.zbz z5 bn bv m h J = some r) _ ⟨([] : List Int), 0, aw, ax, rfl, Le.refl _ _, rfl, br, hm⟩ ?_
 rintro (_ | c8) _ _ σ ⟨h, J, e, B, rfl, C, rfl, ah, hm⟩
 ·cases hm
 unfold Vm.zbz at hm
 have bz := bu.t C
 have D := ((bm.up af).up I).up C
 refine ssr (mi rfl (mv H rfl (Lw.ln z5 D.rd rfl (Lw.lt rfl (nl (cn hm (fun hm => ?_) fun hm => ?_))))))
 ·refine sk ?_
  obtain ⟨b0, b2, hm⟩ := za1 hm
  refine Cw.join 28 40 [9] (fun l w => ∃ L M E, CW.w E = w ∧ Le [5] B E ∧ l = [M] ∧ Ow E 5 [] [M] L ∧ b0 L = some r) ?_ ?_
  ·rintro _ _ σ ⟨L, M, E, rfl, b3, rfl, b4, hm⟩
   rw [b2] at hm
   exact rg (mi rfl (Lw.add rfl (Ni rfl ((agm) ⟨L, w64 (J + 1), M, E, rfl, (C.j b3).w, rfl, b4, hm⟩))))
  ·refine Cw.block (sr (mv av rfl (mv H rfl (mi rfl ?_))))
   obtain ⟨c9, ay, hm⟩ := ob hm
   refine Lw.r rfl (R.ix (α := Int) D.rd ay rfl rfl rfl) (Lw.r rfl (R.ld rfl rfl (D.rd.at_ ay).int) (ca hm (fun _ => p132 (K := [4]) ((bp.up I).up C).rd) fun da b5 hm y => nl (cn hm (fun hm => ?_) fun hm => ?_)))
   ·refine rg (mv e rfl (mv H rfl (mi rfl ?_)))
    obtain ⟨az, a0, hm⟩ := ob hm
    refine Lw.r rfl (R.ix (α := Int) (D.up y).rd a0 rfl rfl rfl) (Lw.r rfl (R.ld rfl rfl ((D.up y).rd.at_ a0).int) (Lw.t rfl (T.bs 6 [vI az] (cs := [vI az]) rfl rfl (bsv rfl)) ?_))
    rintro _ _ ⟨db, dc, rfl, rfl, a1, b6⟩
    obtain ⟨b7, b8, hm⟩ := ob hm
    refine Lw.t rfl (T.app1S (α := Int) (K' := []) ((ah.up y).up a1) b6 (rdI _) rfl rfl b8) ?_
    rintro a3 _ ⟨b9, rfl, cb, cc⟩
    exact Nv a3 rfl ((ag) ⟨b7, a3, b9, rfl, ((y.j a1).j cb).w, rfl, cc, hm⟩)
   ·exact sk ((ag) ⟨h, e, b5, rfl, y.w, rfl, (ah.up y), hm⟩)
 ·refine Cw.exit ?_
  rw [bw] at hm
  refine sr (Lw.t rfl (T.lit0 (α := Int) 7 []) ?_)
  rintro a4 _ ⟨a5, rfl, ai, cd⟩
  have ce := bz.n ai
  refine Nv a4 rfl (ssr (Ni rfl (Cw.block ?_)))
  obtain ⟨cf, cg, hm⟩ := za1 hm
  refine Cw.loop 42 81 [11, 12, 13, 14] (fun m l w => ∃ N i k a6 a7 x, CW.w x = w ∧ Le [7] a5 x ∧ l = [k, vI i, a6, a7] ∧ Ow x 7 [] [k] N ∧ Vm.zaH x0 h cf m N i = some r) _ ⟨([] : List Int), 0, a4, undef, undef, a5, rfl, Le.refl _ _, rfl, cd, hm⟩ ?_
  rintro (_ | dd) _ _ σ ⟨N, i, k, a6, a7, x, rfl, O, rfl, aj, hm⟩
  ·cases hm
  unfold Vm.zaH at hm
  have a9 := ce.t O
  have ba := (ah.up ai).up O
  refine ssr (mi rfl (mv e rfl (Lw.ln h ba.rd rfl (Lw.lt rfl (nl (cn hm (fun hm => ?_) fun hm => ?_))))))
  ·refine sk ?_
   obtain ⟨ch, ci, hm⟩ := za1 hm
   refine Cw.join 48 81 [11, 13, 14] (fun l w => ∃ P Q ak am F, CW.w F = w ∧ Le [7] x F ∧ l = [Q, ak, am] ∧ Ow F 7 [] [Q] P ∧ ch P = some r) ?_ ?_
   ·rintro _ _ σ ⟨P, Q, ak, am, F, rfl, cj, rfl, ck, hm⟩
    rw [ci] at hm
    exact rg (mi rfl (Lw.add rfl (Ni rfl ((agm) ⟨P, w64 (i + 1), Q, ak, am, F, rfl, (O.j cj).w, rfl, ck, hm⟩))))
   ·refine Cw.block (sr (Nb rfl (ssr (Ni rfl (Cw.block ?_)))))
    obtain ⟨cl, cm, hm⟩ := za1 hm
    refine Cw.loop 48 73 [13, 14] (fun m l w => ∃ G d S, CW.w S = w ∧ Le [] x S ∧ l = [vB G, vI d] ∧ Vm.za8 x0 h i cl m G d = some r) _ ⟨true, 0, x, rfl, Le.refl _ _, rfl, hm⟩ ?_
    rintro (_ | de) _ _ σ ⟨G, d, S, rfl, f, rfl, hm⟩
    ·cases hm
    unfold Vm.za8 at hm
    have co := a9.n f
    have U := ba.up f
    refine ssr (mi rfl (mv e rfl (Lw.ln h U.rd rfl (Lw.lt rfl (nl (cn hm (fun hm => ?_) fun hm => ?_))))))
    ·refine sk (Cw.seq (Cw.block (Cw.draw [] [(0, 0), (1, 0), (2, 0), (3, 0), (4, 0), (5, 0), (6, 1), (7, 0), (8, 0), (9, 0), (10, 1), (12, 0), (13, 0), (14, 0), (15, 1), (11, 2), (16, 3), (17, 0), (18, 0), (19, 0), (20, 0)] mixed (by kernel_rfl) fun bb z => ?_)))
     have bc := co.n z
     have A := U.up z
     refine Db rfl (Db rfl (bs hm (fun b hm => ?_) fun b hm => ?_))
     ·refine Wp b rfl (fun _ => R.mv (v := vI d) rfl) (Wp b rfl (fun _ => R.mv (v := vI i) rfl) (Wp b rfl (fun _ => R.eq rfl rfl) (Wp b rfl (fun _ => R.mv (v := vB ((d : Int) == (i : Int))) rfl) (bs hm (fun a hm => ?_) fun a hm => ?_))))
      ·exact dps 12 a rfl (Wp b rfl (fun _ => R.pk a rfl (v := vB true) rfl) (Mw.p rfl rfl (fun _ => R.pk b rfl (v := vB true) rfl) (Hb rfl (Mw.nil (rg (mi rfl (Lw.add rfl (Ni rfl ((agm) ⟨true, w64 (d + 1), bb, rfl, (f.j z).w, rfl, hm⟩)))))))))
      ·refine Wq a rfl (fun _ c => R.lda (cs := [V, W]) (((((((((Z.up l7).up af).up I).up C).up ai).up O).up f).up z).clcs rfl c) rfl rfl) (Wp a rfl (fun _ => R.mv (v := e) rfl) (Wp a rfl (fun _ => R.mv (v := vI d) rfl) ?_))
       obtain ⟨df, an, hm⟩ := ob hm
       refine Wp a rfl (fun _ => R.ix (α := Int) A.rd an rfl rfl rfl) (Wq a rfl (fun _ c => R.ld rfl rfl (zam (A.rd.at_ an).1 rfl (A.rd.at_ an).int c)) (Wp a rfl (fun _ => R.mv (v := e) rfl) (Wp a rfl (fun _ => R.mv (v := vI i) rfl) ?_)))
       obtain ⟨dg, ao, hm⟩ := ob hm
       refine Wp a rfl (fun _ => R.ix (α := Int) A.rd ao rfl rfl rfl) (Wq a rfl (fun _ c => R.ld rfl rfl (zam (A.rd.at_ ao).1 rfl (A.rd.at_ ao).int c)) ?_)
       obtain ⟨dh, cp, hm⟩ := ob hm
       refine Wt a rfl (T.call rfl (p133 (k0 := 8) (Repo.rd (K := [0]) x0.Commits x0.Heads (X.ul bc) (Y.ul bc)) cp)) ?_
       rintro di _ ⟨dj, rfl, be, ⟨_, rfl, cq⟩⟩
       refine m0 be fun dk => ?_
       obtain ⟨ap, ct, hm⟩ := ob hm
       refine Mw.gl a rfl rfl rfl rfl rfl (T.call rfl (p132 (K := [8])  cq.rd ct)) ?_
       rintro _ _ ⟨cu, rfl, cv, rfl⟩
       exact Wp a rfl (fun _ => R.not rfl) (Wp b rfl (fun _ => R.pk a rfl (v := vB (!ap)) rfl) (Mw.p rfl rfl (fun _ => R.pk b rfl (v := vB (!ap)) rfl) (Hb rfl (Mw.nil (rg (mi rfl (Lw.add rfl (Ni rfl ((agm) ⟨(!ap), w64 (d + 1), cu, rfl, (((f.j z).j be).j cv).w, rfl, hm⟩)))))))))
     ·exact dps 4 b rfl (dpu 12 rfl (dps 1 b rfl (Mw.p rfl rfl (fun _ => R.pk b rfl (v := vB false) rfl) (Hb rfl (Mw.nil (rg (mi rfl (Lw.add rfl (Ni rfl ((agm) ⟨false, w64 (d + 1), bb, rfl, (f.j z).w, rfl, hm⟩))))))))))
    ·refine Cw.exit ?_
     rw [cm] at hm
     refine sr (mb rfl (nl (cn hm (fun hm => ?_) fun hm => ?_)))
     ·refine rg (mv k rfl (mv e rfl (mi rfl ?_)))
      obtain ⟨bg, bh, hm⟩ := ob hm
      refine Lw.r rfl (R.ix (α := Int) U.rd bh rfl rfl rfl) (Lw.r rfl (R.ld rfl rfl (U.rd.at_ bh).int) (Lw.t rfl (T.bs 9 [vI bg] (cs := [vI bg]) rfl rfl (bsv rfl)) ?_))
      rintro _ _ ⟨dl, dm, rfl, rfl, bi, cw⟩
      obtain ⟨cx, cy, hm⟩ := ob hm
      refine Lw.t rfl (T.app1S (α := Int) (K' := []) ((aj.up f).up bi) cw (rdI _) rfl rfl cy) ?_
      rintro bj _ ⟨cz, rfl, c0, c1⟩
      exact Nv bj rfl ((ag) ⟨cx, bj, vB G, vI d, cz, rfl, ((f.j bi).j c0).w, rfl, c1, hm⟩)
     ·exact sk ((ag) ⟨N, k, vB G, vI d, S, rfl, f.w, rfl, (aj.up f), hm⟩)
  ·refine Cw.exit ?_
   rw [cg] at hm
   refine sr (mv k rfl (Nv k rfl ?_))
   cases hm
   exact Cw.ret (zhh rfl (Res.mk a9 ⟨k, rfl, aj.s.sub rfl rfl⟩))
theorem p141 {x0 b d x1 x2 k0 r} (f : Rd W K [b, d] x0) (hm : Vm.zdX x0 x1 x2 = some r) : Q1 141 [.agg [b, d].toArray, vI x1, vI x2] W [] fun W' v => ∃ a, v = a ∧ Ow W' k0 [] [a] r :=
 (c141 (f.view _) hm).ad (fk k0) fun _ _ ⟨a, e, h⟩ => ⟨a, e, h.back (zhf _)⟩
theorem c135 {x0 k x x1 x2 r} (I : Rd W0 [0] [k, x] x0) (hm : Vm.zey x0 x1 x2 = some r) : Q0 135 [.agg [k, x].toArray, vI x1, vI x2] W0 fun Wf v => ∃ y, v = y ∧ Rd Wf [0] [y] r := by
 unfold Vm.zey at hm
 obtain ⟨M, N, z, A, J⟩ := Repo.split I
 simp only [List.cons.injEq, and_true, true_and] at z
 obtain ⟨rfl, rfl⟩ := z
 refine zap.of Tryz.func135 rfl rfl rfl rfl (sr (bo 2 rfl fun O P L B => ?_))
 have d := L.o
 refine Nv (.slice none 0 0) rfl (sr (la B (mi rfl (mi rfl (cr hm (fun _ => p141 (k0 := 3) (Repo.rd (K := [0]) x0.Commits x0.Heads (A.ul d) (J.ul d))) ?_)))))
 rintro C a Q hm D ⟨_, rfl, E⟩
 have F := d.n D
 refine Nv a rfl (ssr (mv a rfl (Lw.ln C E.rd rfl (Lw.eq rfl (nl (cn hm (fun hm => ?_) fun hm => ?_))))))
 ·refine sr (Nv (.slice none 0 0) rfl ?_)
  cases hm
  exact Cw.ret (zhh rfl (Res.mk F ⟨.slice none 0 0, rfl, (rdN (K := [0]))⟩))
 ·refine sk (Cw.seq (Cw.draw [] [(0, 0), (1, 1), (2, 0), (3, 0), (4, 0), (5, 0), (6, 0), (7, 1), (8, 0), (9, 0), (10, 1), (11, 0)] mixed (by kernel_rfl) fun S e => ?_))
  have G := F.n e
  have b := E.up e
  refine Dfl ((B.up D).up e) rfl rfl rfl (Dv a rfl (Dv a rfl (Mw.p rfl rfl (fun _ => zpF (xs := C) b.rd rfl) (Mw.p rfl rfl (fun _ => R.sub rfl rfl) ?_))))
  obtain ⟨T, f, hm⟩ := ob hm
  refine Mw.p rfl rfl (fun _ => R.ix (α := Int) b.rd f rfl rfl rfl) (Mw.q rfl rfl (fun _ c => R.ld rfl rfl (zam (b.rd.at_ f).1 rfl (b.rd.at_ f).int c)) ?_)
  obtain ⟨U, h, hm⟩ := ob hm
  have i := A.ul G
  refine Mw.p rfl rfl (fun _ => R.ix (α := Commit) i h rfl rfl rfl) (Df rfl ?_)
  obtain ⟨H, c21, r22⟩ := (Commit.at2 (i.at_ h)).cell rfl
  refine Mw.q rfl rfl (fun _ c => R.ld rfl rfl (zam (Commit.at2 (i.at_ h)).1 rfl c21 c)) (Hv H rfl (Mw.nil ?_))
  cases hm
  exact Cw.ret (zhh rfl (Res.mk G ⟨H, rfl, r22⟩))
theorem p135 {x0 b d x1 x2 r} (f : Rd W K [b, d] x0) (hm : Vm.zey x0 x1 x2 = some r) : Q1 135 [.agg [b, d].toArray, vI x1, vI x2] W [] fun W' v => ∃ a, v = a ∧ Rd W' (0 :: K) [a] r :=
 (c135 (f.view _) hm).ad (fk 0) fun _ _ ⟨a, e, h⟩ => ⟨a, e, h.back rfl⟩
theorem c151 {x0 a x1 r} (b : Rd W0 [0] [a] x0) (hm : Vm.zdj x0 x1 = some r) : Q0 151 [a, vS x1] W0 fun Wf v => ∃ F, v = F ∧ Rd Wf [0] [F] r := by
 unfold Vm.zdj at hm
 refine zap.of Tryz.func151 rfl rfl rfl rfl (sr (Nv (.slice none 0 0) rfl (sr (Ni rfl (Cw.seq (Cw.block ?_))))))
 obtain ⟨Q, S, hm⟩ := za1 hm
 refine Cw.loop 7 20 [5] (fun m l w => ∃ i e, CW.w e = w ∧ Le [] W0 e ∧ l = [vI i] ∧ Vm.zcA x0 x1 Q m i = some r) _ ⟨0, W0, rfl, Le.refl _ _, rfl, hm⟩ ?_
 rintro (_ | m4) _ _ σ ⟨i, e, rfl, G, rfl, hm⟩
 ·cases hm
 unfold Vm.zcA at hm
 have k := G.o
 refine Cw.seq ?_
 obtain ⟨U, V, hm⟩ := za1 hm
 refine Cw.join 7 18 [18] (fun l w => ∃ y d, CW.w d = w ∧ Le [] e d ∧ l = [vB y] ∧ U y = some r) ?_ ?_
 ·rintro _ _ σ ⟨y, d, rfl, H, rfl, hm⟩
  rw [V] at hm
  have x := k.n H
  refine cn hm (fun hm => ?_) fun hm => ?_
  ·exact sk (Cw.block (rg (mi rfl (Lw.add rfl (Ni rfl ((agm) ⟨w64 (i + 1), d, rfl, (G.j H).w, rfl, hm⟩))))))
  ·refine Cw.exit ?_
   rw [S] at hm
   refine Cw.seq ?_
   obtain ⟨W, X, hm⟩ := za1 hm
   refine Cw.join 21 32 [32] (fun l w => ∃ z A, CW.w A = w ∧ Le [] d A ∧ l = [vB z] ∧ W z = some r) ?_ ?_
   ·rintro _ _ σ ⟨z, A, rfl, Y, rfl, hm⟩
    rw [X] at hm
    have B := x.n Y
    refine cn hm (fun hm => ?_) fun hm => ?_
    ·refine sr (mv a rfl (Nv a rfl ?_))
     cases hm
     exact Cw.ret (zhh rfl (Res.mk B ⟨a, rfl, (b.ul B)⟩))
    ·refine sk (sr (Lw.t rfl (T.lit0 (α := Str) 2 []) ?_))
     rintro a4 _ ⟨a6, rfl, Z, aa⟩
     have C := B.n Z
     refine mv a rfl (mi rfl ?_)
     obtain ⟨a7, I, hm⟩ := ob hm
     have r23 := (b.ul C).cutV I
     refine Lw.r rfl (R.sl (b.ul C) I rfl (.inl ⟨rfl, rfl⟩) (.inr rfl)) ?_
     obtain ⟨a8, ac, hm⟩ := ob hm
     refine Lw.t rfl (T.appP (α := Str) aa r23 rfl rfl ac) ?_
     rintro J _ ⟨ba, rfl, ae, af⟩
     have ah := C.t ae
     refine Nv J rfl (sr (mv J rfl (ms rfl (Lw.t rfl (T.bs 3 [vS x1] (cs := [vS x1]) rfl rfl (bsv rfl)) ?_))))
     rintro _ _ ⟨bb, bc, rfl, rfl, K, ai⟩
     have aj := ah.n K
     obtain ⟨be, ak, hm⟩ := ob hm
     refine Lw.t rfl (T.app1S (α := Str) (K' := []) (af.up K) ai (rdS _) rfl rfl ak) ?_
     rintro L _ ⟨bg, rfl, am, an⟩
     have D := aj.t am
     refine Nv L rfl (sr (mv L rfl (mv a rfl (mi rfl ?_))))
     obtain ⟨bh, N, hm⟩ := ob hm
     have r40 := (b.ul D).cutV N
     refine Lw.r rfl (R.sl (b.ul D) N rfl (.inr rfl) (.inl ⟨rfl, rfl⟩)) ?_
     obtain ⟨ao, ap, hm⟩ := ob hm
     refine Lw.t rfl (T.appP (α := Str) an r40 rfl rfl ap) ?_
     rintro E _ ⟨bi, rfl, aq, ar⟩
     have au := D.t aq
     refine Nv E rfl ?_
     obtain ⟨av, aw, ax, ay⟩ := zgW _ 2
     have az : Rd (α := List Str) av [0] [E] ao := by rw [ay]; exact (ar.rd.dye 2).sub (M := [0]) rfl
     have a0 := au.t ax
     cases hm
     rw [← aw]
     exact Cw.ret (zhh rfl (Res.mk a0 ⟨E, rfl, az⟩))
   ·refine rg (mi rfl (mv a rfl (Lw.ln x0 (b.ul x) rfl (Lw.lt rfl (mb rfl (bs hm (fun f hm => ?_) fun f hm => ?_))))))
    ·refine wak 6 f (mv a rfl (mi rfl ?_))
     obtain ⟨a1, O, hm⟩ := ob hm
     exact Lw.r rfl (R.ix (α := Str) (b.ul x) O rfl rfl rfl) (Lw.r rfl (R.ld rfl rfl ((b.ul x).at_ O).str) (ms rfl (Lw.seq rfl (Pb f rfl (nl ((ag) ⟨(a1 == x1), d, rfl, Le.refl _ _, rfl, hm⟩))))))
    ·exact psk 6 f rfl (Pb f rfl (nl ((ag) ⟨false, d, rfl, Le.refl _ _, rfl, hm⟩)))
 ·refine rg (mi rfl (mv a rfl (Lw.ln x0 (b.ul k) rfl (Lw.lt rfl (mb rfl (bs hm (fun h hm => ?_) fun h hm => ?_))))))
  ·refine wak 6 h (mv a rfl (mi rfl ?_))
   obtain ⟨a2, P, hm⟩ := ob hm
   exact Lw.r rfl (R.ix (α := Str) (b.ul k) P rfl rfl rfl) (Lw.r rfl (R.ld rfl rfl ((b.ul k).at_ P).str) (ms rfl (Lw.r rfl (R.slt rfl rfl) (Pb h rfl (nl ((ag) ⟨Op.bytesLess a2 x1, e, rfl, Le.refl _ _, rfl, hm⟩))))))
  ·exact psk 6 h rfl (Pb h rfl (nl ((ag) ⟨false, e, rfl, Le.refl _ _, rfl, hm⟩)))
theorem p151 {x0 b x1 r} (d : Rd W K [b] x0) (hm : Vm.zdj x0 x1 = some r) : Q1 151 [b, vS x1] W [] fun W' v => ∃ a, v = a ∧ Rd W' (0 :: K) [a] r :=
 (c151 (d.view _) hm).ad (fk 0) fun _ _ ⟨a, e, f⟩ => ⟨a, e, f.back rfl⟩
theorem c147 {x0 h x1 i x2 k r} (G : Rd W0 [0] [h] x0) (H : Rd W0 [0] [i] x1) (I : Rd W0 [0] [k] x2) (hm : Vm.zdY x0 x1 x2 = some r) : Q0 147 [h, i, k] W0 fun Wf v => ∃ N, v = N ∧ Rd Wf [0] [N] r := by
 unfold Vm.zdY at hm
 refine zap.of Tryz.func147 rfl rfl rfl rfl (sr (Nv (.slice none 0 0) rfl (sr (Lw.t rfl (T.lit0 (α := Str) 2 []) ?_))))
 rintro J _ ⟨W1, rfl, Y, Z⟩
 have a2 := Y.o
 refine Nv J rfl (ssr (Ni rfl (Cw.block ?_)))
 obtain ⟨K, ac, l3, af⟩ := zgW _ 2
 rw [← ac]
 have s4 : Rd (α := List Str) K [0] [J] ([] : List Str) := by rw [af]; exact (Z.rd.dye 2).sub (M := [0]) rfl
 have a5 := a2.t l3
 obtain ⟨aj, ak, hm⟩ := za1 hm
 refine Cw.loop 12 24 [7, 8] (fun m l w => ∃ x y e b, CW.w b = w ∧ Le [] K b ∧ l = [e, vI y] ∧ Rd b [0] [e] x ∧ Vm.zbA x0 aj m x y = some r) _ ⟨([] : List Str), 0, J, K, rfl, Le.refl _ _, rfl, s4, hm⟩ ?_
 rintro (_ | ba) _ _ σ ⟨x, y, e, b, rfl, l10, rfl, r8, hm⟩
 ·cases hm
 unfold Vm.zbA at hm
 have z := a5.n l10
 refine ssr (mi rfl (mv h rfl (Lw.ln x0 (G.ul z) rfl (Lw.lt rfl (nl (cn hm (fun hm => ?_) fun hm => ?_))))))
 ·refine sk (Cw.seq (Cw.block (rg (mv e rfl (mv h rfl (mi rfl ?_))))))
  obtain ⟨bb, O, hm⟩ := ob hm
  refine Lw.r rfl (R.ix (α := File) (G.ul z) O rfl rfl rfl) (Lw.fa rfl (Lw.r rfl (R.ld rfl rfl (File.at0 ((G.ul z).at_ O)).str) (cr hm (fun _ => p151 r8) ?_)))
  rintro am P an hm ao ⟨_, rfl, ap⟩
  have aq := ap.sub (M := [0]) rfl
  exact Nv P rfl (rg (mi rfl (Lw.add rfl (Ni rfl ((agm) ⟨am, w64 (y + 1), P, an, rfl, (l10.j ao).w, rfl, aq, hm⟩)))))
 ·refine Cw.exit ?_
  rw [ak] at hm
  refine ssr (Ni rfl (Cw.block ?_))
  obtain ⟨ar, au, hm⟩ := za1 hm
  refine Cw.loop 25 37 [7, 9] (fun m l w => ∃ A B f d, CW.w d = w ∧ Le [] b d ∧ l = [f, vI B] ∧ Rd d [0] [f] A ∧ Vm.zaW x1 ar m A B = some r) _ ⟨x, 0, e, b, rfl, Le.refl _ _, rfl, r8, hm⟩ ?_
  rintro (_ | bc) _ _ σ ⟨A, B, f, d, rfl, Q, rfl, r25, hm⟩
  ·cases hm
  unfold Vm.zaW at hm
  have C := z.n Q
  refine ssr (mi rfl (mv i rfl (Lw.ln x1 (H.ul C) rfl (Lw.lt rfl (nl (cn hm (fun hm => ?_) fun hm => ?_))))))
  ·refine sk (Cw.seq (Cw.block (rg (mv f rfl (mv i rfl (mi rfl ?_))))))
   obtain ⟨be, S, hm⟩ := ob hm
   refine Lw.r rfl (R.ix (α := File) (H.ul C) S rfl rfl rfl) (Lw.fa rfl (Lw.r rfl (R.ld rfl rfl (File.at0 ((H.ul C).at_ S)).str) (cr hm (fun _ => p151 r25) ?_)))
   rintro av U aw hm ax ⟨_, rfl, ay⟩
   have az := ay.sub (M := [0]) rfl
   exact Nv U rfl (rg (mi rfl (Lw.add rfl (Ni rfl ((agm) ⟨av, w64 (B + 1), U, aw, rfl, (Q.j ax).w, rfl, az, hm⟩)))))
  ·refine Cw.exit ?_
   rw [au] at hm
   refine ssr (Ni rfl (Cw.block ?_))
   obtain ⟨a0, a1, hm⟩ := za1 hm
   refine Cw.loop 38 50 [7, 10] (fun m l w => ∃ L D a E, CW.w E = w ∧ Le [] d E ∧ l = [a, vI D] ∧ Rd E [0] [a] L ∧ Vm.zaz x2 a0 m L D = some r) _ ⟨A, 0, f, d, rfl, Le.refl _ _, rfl, r25, hm⟩ ?_
   rintro (_ | bg) _ _ σ ⟨L, D, a, E, rfl, V, rfl, r42, hm⟩
   ·cases hm
   unfold Vm.zaz at hm
   have F := C.n V
   refine ssr (mi rfl (mv k rfl (Lw.ln x2 (I.ul F) rfl (Lw.lt rfl (nl (cn hm (fun hm => ?_) fun hm => ?_))))))
   ·refine sk (Cw.seq (Cw.block (rg (mv a rfl (mv k rfl (mi rfl ?_))))))
    obtain ⟨bh, W, hm⟩ := ob hm
    refine Lw.r rfl (R.ix (α := File) (I.ul F) W rfl rfl rfl) (Lw.fa rfl (Lw.r rfl (R.ld rfl rfl (File.at0 ((I.ul F).at_ W)).str) (cr hm (fun _ => p151 r42) ?_)))
    rintro a3 X a4 hm a6 ⟨_, rfl, a7⟩
    have a8 := a7.sub (M := [0]) rfl
    exact Nv X rfl (rg (mi rfl (Lw.add rfl (Ni rfl ((agm) ⟨a3, w64 (D + 1), X, a4, rfl, (V.j a6).w, rfl, a8, hm⟩)))))
   ·refine Cw.exit ?_
    rw [a1] at hm
    refine sr (mv a rfl (Nv a rfl ?_))
    cases hm
    exact Cw.ret (zhh rfl (Res.mk F ⟨a, rfl, r42⟩))
theorem p147 {x0 b x1 d x2 f r} (h : Rd W K [b] x0) (i : Rd W K [d] x1) (k : Rd W K [f] x2) (hm : Vm.zdY x0 x1 x2 = some r) : Q1 147 [b, d, f] W [] fun W' v => ∃ a, v = a ∧ Rd W' (0 :: K) [a] r :=
 (c147 (h.view _) (i.view _) (k.view _) hm).ad (fk 0) fun _ _ ⟨a, e, x⟩ => ⟨a, e, x.back rfl⟩
theorem c74 {x0 a x1 r} (C : Rd W0 [0] [a] x0) (hm : Vm.zej x0 x1 = some r) : Q0 74 [a, vS x1] W0 fun Wf v => ∃ x, v = .tuple [x, vB r.2].toArray ∧ Rd Wf [0] [x] r.1 := by
 unfold Vm.zej at hm
 refine zap.of Tryz.func74 rfl rfl rfl rfl (sr (Gv (.slice none 0 0) rfl (Nb rfl (ssr (Ni rfl (Cw.block ?_))))))
 obtain ⟨D, E, hm⟩ := za1 hm
 refine Cw.loop 7 24 [4, 5, 6] (fun m l w => ∃ e f h i b, CW.w b = w ∧ Le [] W0 b ∧ l = [i, vB f, vI h] ∧ Ow b 2 [] [i] e ∧ Vm.zcB x0 x1 D m e f h = some r) _ ⟨([] : List Str), false, 0, .slice none 0 0, W0, rfl, Le.refl _ _, rfl, owN 2 [], hm⟩ ?_
 rintro (_ | G) _ _ σ ⟨e, f, h, i, b, rfl, y, rfl, F, hm⟩
 ·cases hm
 unfold Vm.zcB at hm
 have k := y.o
 refine ssr ?_
 have d := C.ul k
 refine mi rfl (mv a rfl (Lw.ln x0 d rfl (Lw.lt rfl (nl (cn hm (fun hm => ?_) fun hm => ?_)))))
 ·refine sk (Cw.seq (Cw.block (sr (mv a rfl (mi rfl ?_)))))
  obtain ⟨H, z, hm⟩ := ob hm
  refine Lw.r rfl (R.ix (α := File) d z rfl rfl rfl) (Lw.fa rfl (Lw.r rfl (R.ld rfl rfl (File.at0 (d.at_ z)).str) (ms rfl (Lw.seq rfl (nl (cn hm (fun hm => ?_) fun hm => ?_))))))
  ·refine sr (mv a rfl (mi rfl ?_))
   obtain ⟨I, A, hm⟩ := ob hm
   refine Lw.r rfl (R.ix (α := File) d A rfl rfl rfl) (Lw.fa rfl ?_)
   obtain ⟨B, c18, r19⟩ := (File.at1 (d.at_ A)).cell rfl
   refine Lw.r rfl (R.ld rfl rfl c18) (Gv B rfl (Nb rfl ?_))
   cases hm
   exact Cw.ret (zis rfl rfl (Res.mk k ⟨B, rfl, r19⟩))
  ·exact sk (rg (mi rfl (Lw.add rfl (Ni rfl ((agm) ⟨e, f, w64 (h + 1), i, b, rfl, y, rfl, F, hm⟩)))))
 ·refine Cw.exit ?_
  rw [E] at hm
  refine sr (Gv (.slice none 0 0) rfl (Nb rfl ?_))
  cases hm
  exact Cw.ret (zis rfl rfl (Res.mk k ⟨.slice none 0 0, rfl, (rdN (K := [0]))⟩))
theorem p74 {x0 b x1 r} (d : Rd W K [b] x0) (hm : Vm.zej x0 x1 = some r) : Q1 74 [b, vS x1] W [] fun W' v => ∃ a, v = .tuple [a, vB r.2].toArray ∧ Rd W' (0 :: K) [a] r.1 :=
 (c74 (d.view _) hm).ad (fk 0) fun _ _ ⟨a, e, f⟩ => ⟨a, e, f.back rfl⟩
theorem c24 {x0 b x1 e r} (d : Rd W0 [0] [b] x0) (f : Rd W0 [0] [e] x1) (hm : Vm.zcO x0 x1 = some r) : Q0 24 [b, e] W0 fun Wf v => v = vB r := by
 unfold Vm.zcO at hm
 refine zap.of Tryz.func24 rfl rfl rfl rfl (sr (Nb rfl (ssr (mv b rfl (Lw.ln x0 d rfl (mv e rfl (Lw.ln x1 f rfl (Lw.ne rfl (nl (cn hm (fun hm => ?_) fun hm => ?_))))))))))
 ·exact sr (Nb rfl (.ret (rt hm (Le.refl _ _))))
 ·refine sk (ssr (Ni rfl (Cw.block ?_)))
  obtain ⟨B, C, hm⟩ := za1 hm
  refine Cw.loop 11 25 [4, 5] (fun m l w => ∃ h i k, CW.w k = w ∧ Le [] W0 k ∧ l = [vB h, vI i] ∧ Vm.zbZ x0 x1 B m h i = some r) _ ⟨false, 0, W0, rfl, Le.refl _ _, rfl, hm⟩ ?_
  rintro (_ | E) _ _ σ ⟨h, i, k, rfl, A, rfl, hm⟩
  ·cases hm
  unfold Vm.zbZ at hm
  have x := A.o
  refine ssr (mi rfl (mv b rfl (Lw.ln x0 (d.ul x) rfl (Lw.lt rfl (nl (cn hm (fun hm => ?_) fun hm => ?_))))))
  ·refine sk (Cw.seq (Cw.block (Cw.seq (Cw.draw [] [(0, 0), (1, 0), (2, 0), (3, 1), (4, 0), (5, 0), (6, 0), (7, 1), (8, 0)] mixed (by kernel_rfl) fun D l10 => ?_))))
   have a := x.n l10
   refine Dv b rfl (Di rfl ?_)
   obtain ⟨F, y, hm⟩ := ob hm
   refine Mw.p rfl rfl (fun _ => R.ix (α := Str) (d.ul a) y rfl rfl rfl) (Mw.q rfl rfl (fun _ c => R.ld rfl rfl (zam ((d.ul a).at_ y).1 rfl ((d.ul a).at_ y).str c)) (Dv e rfl (Di rfl ?_)))
   obtain ⟨G, z, hm⟩ := ob hm
   refine Mw.p rfl rfl (fun _ => R.ix (α := Str) (f.ul a) z rfl rfl rfl) (Mw.q rfl rfl (fun _ c => R.ld rfl rfl (zam ((f.ul a).at_ z).1 rfl ((f.ul a).at_ z).str c)) (Mw.p rfl rfl (fun _ => R.sne rfl rfl) (Mw.nil (cn hm (fun hm => ?_) fun hm => ?_))))
   ·exact sr (Nb rfl (.ret (rt hm a)))
   ·exact sk (rg (mi rfl (Lw.add rfl (Ni rfl ((agm) ⟨h, w64 (i + 1), D, rfl, (A.j l10).w, rfl, hm⟩)))))
  ·refine Cw.exit ?_
   rw [C] at hm
   exact sr (Nb rfl (.ret (rt hm x)))
theorem p24 {x0 a x1 b r} (d : Rd W K [a] x0) (f : Rd W K [b] x1) (hm : Vm.zcO x0 x1 = some r) : Q1 24 [a, b] W [] fun W' v => v = vB r :=
 (c24 (d.view _) (f.view _) hm).ad (fk 0) fun _ _ e => e
theorem c152 {x0 d x1 x2 e x3 r} (i : Rd W0 [0] [d] x0) (k : Rd W0 [0] [e] x2) (hm : Vm.zdB x0 x1 x2 x3 = some r) : Q0 152 [d, vB x1, e, vB x3] W0 fun Wf v => v = vB r := by
 unfold Vm.zdB at hm
 refine zap.of Tryz.func152 rfl rfl rfl rfl (sr (Nb rfl ?_))
 obtain ⟨x, y, hm⟩ := za1 hm
 refine Cw.join 9 20 [8] (fun l w => ∃ f h, CW.w h = w ∧ Le [] W0 h ∧ l = [vB f] ∧ x f = some r) ?_ ?_
 ·rintro _ _ σ ⟨f, h, rfl, z, rfl, hm⟩
  rw [y] at hm
  have A := z.o
  exact .ret (rt hm A)
 ·refine rg (mb rfl (mb rfl (Lw.r rfl (R.beq rfl rfl) (mb rfl (bs hm (fun a hm => ?_) fun a hm => ?_)))))
  ·refine wak 3 a (mb rfl (Lw.r rfl (R.not rfl) (mb rfl (bs hm (fun b hm => ?_) fun b hm => ?_))))
   ·exact psk 3 b rfl (wak 1 a (Pb b rfl (Pb a rfl (Nb rfl ((ag) ⟨true, W0, rfl, Le.refl _ _, rfl, hm⟩)))))
   ·exact wak 3 b (mv d rfl (mv e rfl (ca hm (fun _ => p24 i k) fun B C hm D => wak 1 a (Pb b rfl (Pb a rfl (Nb rfl ((ag) ⟨B, C, rfl, D, rfl, hm⟩)))))))
  ·exact psk 3 a rfl (puk 3 rfl (psk 1 a rfl (Pb a rfl (Nb rfl ((ag) ⟨false, W0, rfl, Le.refl _ _, rfl, hm⟩)))))
theorem p152 {x0 a x1 x2 b x3 r} (d : Rd W K [a] x0) (f : Rd W K [b] x2) (hm : Vm.zdB x0 x1 x2 x3 = some r) : Q1 152 [a, vB x1, b, vB x3] W [] fun W' v => v = vB r :=
 (c152 (d.view _) (f.view _) hm).ad (fk 0) fun _ _ e => e
theorem c96 {x0 z x1 A r} (B : Rd W0 [0] [z] x0) (C : Rd W0 [0] [A] x1) (hm : Vm.zdZ x0 x1 = some r) : Q0 96 [z, A] W0 fun Wf v => ∃ u0, v = u0 ∧ OwS Wf LL [] [u0] r := by
 unfold Vm.zdZ at hm
 refine zap.of Tryz.func96 rfl rfl rfl rfl (sr (Nv (.slice none 0 0) rfl (sr (Lw.t rfl (T.lit0 (α := List Int) 2 []) ?_))))
 rintro v1 _ ⟨W1, rfl, l1, o1⟩
 have a2 := l1.o
 refine Nv v1 rfl (ssr (Ni rfl (Cw.block ?_)))
 obtain ⟨K8, bh, hm⟩ := za1 hm
 refine Cw.loop 10 22 [5, 6] (fun m l w => ∃ G H a h, CW.w h = w ∧ Le [2, 3] W1 h ∧ l = [a, vI H] ∧ Ow h 2 [] [a] G ∧ Vm.zbC x0 x1 K8 m G H = some r) _ ⟨([] : List (List Int)), 0, v1, W1, rfl, Le.refl _ _, rfl, o1, hm⟩ ?_
 rintro (_ | m9) _ _ σ ⟨G, H, a, h, rfl, l7, rfl, o5, hm⟩
 ·cases hm
 unfold Vm.zbC at hm
 have I := a2.t l7
 refine ssr (mi rfl (mv z rfl (Lw.ln x0 (B.ul I) rfl (Lw.le rfl (nl (cn hm (fun hm => ?_) fun hm => ?_))))))
 ·refine sk (Cw.seq (Cw.block (rg (mv a rfl (mv A rfl (Lw.ln x1 (C.ul I) rfl (Lw.add rfl ?_)))))))
  obtain ⟨c5, bi, hm⟩ := ob hm
  refine Lw.t rfl (T.mk (α := Int) 3 [] (n := w64 ((x1.length : Int) + 1)) rfl rfl bi) ?_
  rintro av _ ⟨c6, rfl, aw, Q⟩
  refine Lw.t rfl (T.bs 4 [av] (cs := [av]) (bsc Q.oc) rfl (bsv Q.oc)) ?_
  rintro _ _ ⟨c7, c8, rfl, rfl, S, bj⟩
  obtain ⟨bk, bl, hm⟩ := ob hm
  refine Lw.t rfl (T.app1 (α := List Int) (J := [3]) (K' := []) ((o5.up aw).up S) bj (Q.up S).s rfl rfl bl) ?_
  rintro ax _ ⟨bm, rfl, bn, bp⟩
  exact Nv ax rfl (rg (mi rfl (Lw.add rfl (Ni rfl ((agm) ⟨bk, w64 (H + 1), ax, bm, rfl, (((l7.j aw).j S).j bn).w, rfl, bp, hm⟩)))))
 ·refine Cw.exit ?_
  rw [bh] at hm
  refine ssr (mv z rfl (Lw.ln x0 (B.ul I) rfl (Lw.sub rfl (Ni rfl (Cw.block ?_)))))
  obtain ⟨bq, br, hm⟩ := za1 hm
  refine Cw.loop 26 108 [7, 8] (fun m l w => ∃ D K ay i, CW.w i = w ∧ Le [2, 5, 6, 7] h i ∧ l = [vI D, ay] ∧ Ow i 2 [] [a] K ∧ Vm.za9 x0 x1 bq m D K = some r) _ ⟨w64 ((x0.length : Int) - 1), G, undef, h, rfl, Le.refl _ _, rfl, o5, hm⟩ ?_
  rintro (_ | c9) _ _ σ ⟨D, K, ay, i, rfl, az, rfl, a0, hm⟩
  ·cases hm
  unfold Vm.za9 at hm
  have U := I.t az
  refine ssr (mi rfl (Lw.ge rfl (nl (cn hm (fun hm => ?_) fun hm => ?_))))
  ·refine sk (Cw.seq (Cw.block (sr (mv A rfl (Lw.ln x1 (C.ul U) rfl (Lw.sub rfl (Ni rfl (Cw.block ?_))))))))
   obtain ⟨bu, bv, hm⟩ := za1 hm
   refine Cw.loop 33 108 [8] (fun m l w => ∃ E L k, CW.w k = w ∧ Le [2, 5, 6, 7] i k ∧ l = [vI E] ∧ Ow k 2 [] [a] L ∧ Vm.zbB x0 x1 D bu m E L = some r) _ ⟨w64 ((x1.length : Int) - 1), K, i, rfl, Le.refl _ _, rfl, a0, hm⟩ ?_
   rintro (_ | da) _ _ σ ⟨E, L, k, rfl, V, rfl, W, hm⟩
   ·cases hm
   unfold Vm.zbB at hm
   have bw := U.t V
   refine ssr (mi rfl (Lw.ge rfl (nl (cn hm (fun hm => ?_) fun hm => ?_))))
   ·refine sk ?_
    obtain ⟨bz, b0, hm⟩ := za1 hm
    refine Cw.join 37 108 [] (fun l w => ∃ M F, CW.w F = w ∧ Le [2, 5, 6, 7] k F ∧ l = [] ∧ Ow F 2 [] [a] M ∧ bz M = some r) ?_ ?_
    ·rintro _ _ σ ⟨M, F, rfl, b1, rfl, b2, hm⟩
     rw [b0] at hm
     exact rg (mi rfl (Lw.sub rfl (Ni rfl ((agm) ⟨w64 (E - 1), M, F, rfl, (V.j b1).w, rfl, b2, hm⟩))))
    ·refine Cw.block (Cw.block (Cw.seq (Cw.draw [] [(0, 0), (1, 0), (2, 0), (3, 1), (4, 0), (5, 0), (6, 0), (7, 1), (8, 0), (9, 0)] mixed (by kernel_rfl) fun db x => ?_)))
     have y := bw.n x
     refine Dv z rfl (Di rfl ?_)
     obtain ⟨dc, X, hm⟩ := ob hm
     refine Mw.p rfl rfl (fun _ => R.ix (α := Str) (B.ul y) X rfl rfl rfl) (Mw.q rfl rfl (fun _ c => R.ld rfl rfl (zam ((B.ul y).at_ X).1 rfl ((B.ul y).at_ X).str c)) (Dv A rfl (Di rfl ?_)))
     obtain ⟨dd, Y, hm⟩ := ob hm
     refine Mw.p rfl rfl (fun _ => R.ix (α := Str) (C.ul y) Y rfl rfl rfl) (Mw.q rfl rfl (fun _ c => R.ld rfl rfl (zam ((C.ul y).at_ Y).1 rfl ((C.ul y).at_ Y).str c)) (Mw.p rfl rfl (fun _ => R.seq rfl rfl) (Hb rfl (Mw.nil (cn hm (fun hm => ?_) fun hm => ?_)))))
     ·refine Cw.draw [] [(0, 0), (1, 0), (2, 0), (3, 1), (4, 0), (5, 0), (6, 0), (7, 0), (8, 0), (9, 1), (10, 0), (11, 0), (12, 0), (13, 1), (14, 0), (15, 0), (16, 3)] mixed (by kernel_rfl) fun de a1 => ?_
      have d := (W.up x).up a1
      refine Dv a rfl (Di rfl ?_)
      obtain ⟨u64, N, hm⟩ := ob hm
      refine Mw.p rfl rfl (fun _ => R.ix (α := List Int) d.rd N rfl rfl rfl) ?_
      obtain ⟨df, c67, r68⟩ := (d.rd.at_ N).cell rfl
      refine Mw.q rfl rfl (fun _ c => R.ld rfl rfl (zam (d.rd.at_ N).1 rfl c67 c)) (Di rfl (Dv a rfl (Di rfl (Mw.p rfl rfl (fun _ => R.add rfl rfl) ?_))))
      obtain ⟨dg, Z, hm⟩ := ob hm
      refine Mw.p rfl rfl (fun _ => R.ix (α := List Int) d.rd Z rfl rfl rfl) ?_
      obtain ⟨dh, c72, r73⟩ := (d.rd.at_ Z).cell rfl
      refine Mw.q rfl rfl (fun _ c => R.ld rfl rfl (zam (d.rd.at_ Z).1 rfl c72 c)) (Di rfl (Mw.p rfl rfl (fun _ => R.add rfl rfl) ?_))
      obtain ⟨di, aa, hm⟩ := ob hm
      refine Mw.p rfl rfl (fun _ => R.ix (α := Int) r73 aa rfl rfl rfl) (Mw.q rfl rfl (fun _ c => R.ld rfl rfl (zam (r73.at_ aa).1 rfl (r73.at_ aa).int c)) (Mw.p rfl rfl (fun _ => R.add rfl rfl) ?_))
      obtain ⟨dj, b3, hm⟩ := ob hm
      refine Mw.p rfl rfl (fun _ => R.ix (α := Int) r68 b3 rfl rfl rfl) ?_
      obtain ⟨dk, b4, b5, b6, gb78⟩ := Ow.lend (α := List Int) (β := List Int) (j := 5) (jf := 0) d N (by rw [zgP]; exact c67) rfl
      rw [← b4]
      obtain ⟨dl, b7, hm⟩ := ob hm
      refine Mw.lu rfl (T.stS (K' := []) b6 (rdI _) b7 rfl rfl rfl) ?_
      rintro _ _ ⟨dm, rfl, a3, b8⟩
      obtain ⟨b9, cb, cc, cd, eq85, ce⟩ := gb78 _ _ a3 b8
      obtain ⟨a4, eqm85, hm⟩ := ob hm
      obtain rfl : a4 = cd := Option.some.inj (eqm85.symm.trans eq85)
      rw [← cb]
      exact Mw.nil ((ag) ⟨a4, b9, rfl, ((((x.j a1).j b5).j a3).j cc).w, rfl, ce, hm⟩)
     ·refine Cw.seq (Cw.draw [] [(0, 0), (1, 0), (2, 0), (3, 0), (4, 1), (5, 0), (6, 0), (7, 1), (8, 0), (9, 0), (10, 0), (11, 1), (12, 0), (13, 0), (14, 0), (15, 1), (16, 0), (17, 0)] mixed (by kernel_rfl) fun dn ac => ?_)
      have b := (W.up x).up ac
      refine Dv a rfl (Di rfl (Mw.p rfl rfl (fun _ => R.add rfl rfl) ?_))
      obtain ⟨dp, ae, hm⟩ := ob hm
      refine Mw.p rfl rfl (fun _ => R.ix (α := List Int) b.rd ae rfl rfl rfl) ?_
      obtain ⟨dq, c93, r94⟩ := (b.rd.at_ ae).cell rfl
      refine Mw.q rfl rfl (fun _ c => R.ld rfl rfl (zam (b.rd.at_ ae).1 rfl c93 c)) (Di rfl ?_)
      obtain ⟨dr, af, hm⟩ := ob hm
      refine Mw.p rfl rfl (fun _ => R.ix (α := Int) r94 af rfl rfl rfl) (Mw.q rfl rfl (fun _ c => R.ld rfl rfl (zam (r94.at_ af).1 rfl (r94.at_ af).int c)) (Dv a rfl (Di rfl ?_)))
      obtain ⟨ds, ah, hm⟩ := ob hm
      refine Mw.p rfl rfl (fun _ => R.ix (α := List Int) b.rd ah rfl rfl rfl) ?_
      obtain ⟨dt, c100, r101⟩ := (b.rd.at_ ah).cell rfl
      refine Mw.q rfl rfl (fun _ c => R.ld rfl rfl (zam (b.rd.at_ ah).1 rfl c100 c)) (Di rfl (Mw.p rfl rfl (fun _ => R.add rfl rfl) ?_))
      obtain ⟨du, ai, hm⟩ := ob hm
      refine Mw.p rfl rfl (fun _ => R.ix (α := Int) r101 ai rfl rfl rfl) (Mw.q rfl rfl (fun _ c => R.ld rfl rfl (zam (r101.at_ ai).1 rfl (r101.at_ ai).int c)) (Mw.p rfl rfl (fun _ => R.ge rfl rfl) (Hb rfl (Mw.nil (cn hm (fun hm => ?_) fun hm => ?_)))))
      ·refine Cw.draw [] [(0, 0), (1, 0), (2, 0), (3, 1), (4, 0), (5, 0), (6, 0), (7, 0), (8, 0), (9, 1), (10, 0), (11, 0), (12, 1), (13, 0), (14, 3)] mixed (by kernel_rfl) fun dv a5 => ?_
       have e := b.up a5
       refine Dv a rfl (Di rfl ?_)
       obtain ⟨dw, O, hm⟩ := ob hm
       refine Mw.p rfl rfl (fun _ => R.ix (α := List Int) e.rd O rfl rfl rfl) ?_
       obtain ⟨dx, c111, r112⟩ := (e.rd.at_ O).cell rfl
       refine Mw.q rfl rfl (fun _ c => R.ld rfl rfl (zam (e.rd.at_ O).1 rfl c111 c)) (Di rfl (Dv a rfl (Di rfl (Mw.p rfl rfl (fun _ => R.add rfl rfl) ?_))))
       obtain ⟨dy, aj, hm⟩ := ob hm
       refine Mw.p rfl rfl (fun _ => R.ix (α := List Int) e.rd aj rfl rfl rfl) ?_
       obtain ⟨dz, c116, r117⟩ := (e.rd.at_ aj).cell rfl
       refine Mw.q rfl rfl (fun _ c => R.ld rfl rfl (zam (e.rd.at_ aj).1 rfl c116 c)) (Di rfl ?_)
       obtain ⟨d0, ak, hm⟩ := ob hm
       refine Mw.p rfl rfl (fun _ => R.ix (α := Int) r117 ak rfl rfl rfl) (Mw.q rfl rfl (fun _ c => R.ld rfl rfl (zam (r117.at_ ak).1 rfl (r117.at_ ak).int c)) ?_)
       obtain ⟨d1, cf, hm⟩ := ob hm
       refine Mw.p rfl rfl (fun _ => R.ix (α := Int) r112 cf rfl rfl rfl) ?_
       obtain ⟨d2, cg, ch, ci, gb122⟩ := Ow.lend (α := List Int) (β := List Int) (j := 6) (jf := 0) e O (by rw [zgP]; exact c111) rfl
       rw [← cg]
       obtain ⟨d3, cj, hm⟩ := ob hm
       refine Mw.lu rfl (T.stS (K' := []) ci (rdI _) cj rfl rfl rfl) ?_
       rintro _ _ ⟨d4, rfl, a6, ck⟩
       obtain ⟨cl, cm, co, cp, eq129, cq⟩ := gb122 _ _ a6 ck
       obtain ⟨a7, eqm129, hm⟩ := ob hm
       obtain rfl : a7 = cp := Option.some.inj (eqm129.symm.trans eq129)
       rw [← cm]
       exact Mw.nil ((ag) ⟨a7, cl, rfl, (((((x.j ac).j a5).j ch).j a6).j co).w, rfl, cq, hm⟩)
      ·refine Cw.draw [] [(0, 0), (1, 0), (2, 0), (3, 1), (4, 0), (5, 0), (6, 0), (7, 0), (8, 1), (9, 0), (10, 0), (11, 0), (12, 1), (13, 0), (14, 3)] mixed (by kernel_rfl) fun d5 a8 => ?_
       have f := b.up a8
       refine Dv a rfl (Di rfl ?_)
       obtain ⟨d6, P, hm⟩ := ob hm
       refine Mw.p rfl rfl (fun _ => R.ix (α := List Int) f.rd P rfl rfl rfl) ?_
       obtain ⟨d7, c137, r138⟩ := (f.rd.at_ P).cell rfl
       refine Mw.q rfl rfl (fun _ c => R.ld rfl rfl (zam (f.rd.at_ P).1 rfl c137 c)) (Di rfl (Dv a rfl (Di rfl ?_)))
       obtain ⟨d8, am, hm⟩ := ob hm
       refine Mw.p rfl rfl (fun _ => R.ix (α := List Int) f.rd am rfl rfl rfl) ?_
       obtain ⟨d9, c142, r143⟩ := (f.rd.at_ am).cell rfl
       refine Mw.q rfl rfl (fun _ c => R.ld rfl rfl (zam (f.rd.at_ am).1 rfl c142 c)) (Di rfl (Mw.p rfl rfl (fun _ => R.add rfl rfl) ?_))
       obtain ⟨ea, an, hm⟩ := ob hm
       refine Mw.p rfl rfl (fun _ => R.ix (α := Int) r143 an rfl rfl rfl) (Mw.q rfl rfl (fun _ c => R.ld rfl rfl (zam (r143.at_ an).1 rfl (r143.at_ an).int c)) ?_)
       obtain ⟨eb, ct, hm⟩ := ob hm
       refine Mw.p rfl rfl (fun _ => R.ix (α := Int) r138 ct rfl rfl rfl) ?_
       obtain ⟨ec, cu, cv, cw, gb148⟩ := Ow.lend (α := List Int) (β := List Int) (j := 7) (jf := 0) f P (by rw [zgP]; exact c137) rfl
       rw [← cu]
       obtain ⟨ed, cx, hm⟩ := ob hm
       refine Mw.lu rfl (T.stS (K' := []) cw (rdI _) cx rfl rfl rfl) ?_
       rintro _ _ ⟨ee, rfl, a9, cy⟩
       obtain ⟨cz, c0, c1, c2, eq155, c3⟩ := gb148 _ _ a9 cy
       obtain ⟨ba, eqm155, hm⟩ := ob hm
       obtain rfl : ba = c2 := Option.some.inj (eqm155.symm.trans eq155)
       rw [← c0]
       exact Mw.nil ((ag) ⟨ba, cz, rfl, (((((x.j ac).j a8).j cv).j a9).j c1).w, rfl, c3, hm⟩)
   ·refine Cw.exit ?_
    rw [bv] at hm
    exact rg (mi rfl (Lw.sub rfl (Ni rfl ((agm) ⟨w64 (D - 1), L, vI E, k, rfl, (az.j V).w, rfl, W, hm⟩))))
  ·refine Cw.exit ?_
   rw [br] at hm
   refine sr (mv a rfl (Nv a rfl ?_))
   cases hm
   exact Cw.ret (zhh rfl (Res.mk U ⟨a, rfl, a0.s.sub rfl rfl⟩))
theorem p96 {x0 b x1 d k0 r} (f : Rd W K [b] x0) (h : Rd W K [d] x1) (hm : Vm.zdZ x0 x1 = some r) : Q1 96 [b, d] W [] fun W' v => ∃ a, v = a ∧ Ow W' k0 [] [a] r :=
 (c96 (f.view _) (h.view _) hm).ad (fk k0) fun _ _ ⟨a, e, i⟩ => ⟨a, e, i.back (zhf _)⟩
theorem c75 {x0 x x1 i r} (y : Rd W0 [0] [x] x0) (I : Rd W0 [0] [i] x1) (hm : Vm.zdt x0 x1 = some r) : Q0 75 [x, i] W0 fun Wf v => ∃ X, v = X ∧ OwS Wf LL [] [X] r := by
 unfold Vm.zdt at hm
 refine zap.of Tryz.func75 rfl rfl rfl rfl (sr (Nv (.slice none 0 0) rfl (sr (mv x rfl (mv i rfl (cr hm (fun _ => p96 (k0 := 2) y I) ?_))))))
 rintro z1 J W3 hm l3 ⟨_, rfl, au⟩
 have a4 := l3.o
 refine Nv J rfl (sr (Lw.t rfl (T.lit0 (α := Int) 3 []) ?_))
 rintro Y _ ⟨Z, rfl, l5, o5⟩
 have a6 := a4.n l5
 refine Nv Y rfl (sr (Ni rfl (ssr (Ni rfl (Cw.block ?_)))))
 obtain ⟨ay, az, hm⟩ := za1 hm
 refine Cw.loop 13 71 [6, 7, 8] (fun m l w => ∃ B d e f z, CW.w z = w ∧ Le [3] Z z ∧ l = [f, vI d, vI e] ∧ Ow z 3 [] [f] B ∧ Vm.zbD x0 x1 z1 ay m B d e = some r) _ ⟨([] : List Int), 0, 0, Y, Z, rfl, Le.refl _ _, rfl, o5, hm⟩ ?_
 rintro (_ | bn) _ _ σ ⟨B, d, e, f, z, rfl, A, rfl, K, hm⟩
 ·cases hm
 unfold Vm.zbD at hm
 have C := a6.t A
 refine ssr (mi rfl (mv x rfl (Lw.ln x0 (y.ul C) rfl (Lw.lt rfl (nl (cn hm (fun hm => ?_) fun hm => ?_))))))
 ·refine sk (Cw.block (Cw.block ?_))
  obtain ⟨a0, a1, hm⟩ := za1 hm
  refine Cw.join 19 34 [19] (fun l w => ∃ L D, CW.w D = w ∧ Le [] z D ∧ l = [vB L] ∧ a0 L = some r) ?_ ?_
  ·rintro _ _ σ ⟨L, D, rfl, h, rfl, hm⟩
   rw [a1] at hm
   have a2 := C.n h
   refine cn hm (fun hm => ?_) fun hm => ?_
   ·refine sr (mv f rfl (mi rfl (Lw.t rfl (T.bs 4 [vI d] (cs := [vI d]) rfl rfl (bsv rfl)) ?_)))
    rintro _ _ ⟨bp, bq, rfl, rfl, ac, a3⟩
    obtain ⟨a5, a7, hm⟩ := ob hm
    refine Lw.t rfl (T.app1S (α := Int) (K' := []) ((K.up h).up ac) a3 (rdI _) rfl rfl a7) ?_
    rintro ae _ ⟨a8, rfl, a9, ba⟩
    exact Nv ae rfl (sr (mi rfl (Lw.add rfl (Ni rfl (rg (mi rfl (Lw.add rfl (Ni rfl ((agm) ⟨a5, w64 (d + 1), w64 (e + 1), ae, a8, rfl, (((A.j h).j ac).j a9).w, rfl, ba, hm⟩)))))))))
   ·obtain ⟨bb, bc, hm⟩ := za1 hm
    refine Cw.join 43 66 [43] (fun l w => ∃ M E, CW.w E = w ∧ Le [] D E ∧ l = [vB M] ∧ bb M = some r) ?_ ?_
    ·rintro _ _ σ ⟨M, E, rfl, N, rfl, hm⟩
     rw [bc] at hm
     have af := (K.up h).up N
     refine cn hm (fun hm => ?_) fun hm => ?_
     ·refine sr (mv f rfl (Lw.t rfl (T.bs 5 [vI (-1)] (cs := [vI (-1)]) rfl rfl (bsv rfl)) ?_))
      rintro _ _ ⟨br, bu, rfl, rfl, ah, be⟩
      obtain ⟨bg, bh, hm⟩ := ob hm
      refine Lw.t rfl (T.app1S (α := Int) (K' := []) (af.up ah) be (rdI _) rfl rfl bh) ?_
      rintro ai _ ⟨bi, rfl, bj, bk⟩
      exact Nv ai rfl (rg (mi rfl (Lw.add rfl (Ni rfl ((agm) ⟨bg, d, w64 (e + 1), ai, bi, rfl, ((((A.j h).j N).j ah).j bj).w, rfl, bk, hm⟩)))))
     ·exact rg (mi rfl (Lw.add rfl (Ni rfl ((agm) ⟨B, w64 (d + 1), e, f, E, rfl, ((A.j h).j N).w, rfl, af, hm⟩))))
    ·refine Cw.draw [] [(0, 0), (1, 0), (2, 0), (3, 0), (4, 0), (5, 0), (6, 0), (7, 0), (8, 0), (9, 1), (10, 0), (11, 0), (12, 1), (13, 0), (14, 0), (15, 0), (16, 1), (17, 0), (18, 0), (19, 0), (20, 1), (21, 0), (22, 0), (23, 0)] mixed (by kernel_rfl) fun aj F => ?_
     have bl := a2.n F
     have k := (((au.up l5).up A).up h).up F
     refine Di rfl (Dv i rfl (Mw.p rfl rfl (fun _ => zpF (xs := x1) (I.ul bl) rfl) (Mw.p rfl rfl (fun _ => R.ge rfl rfl) (Db rfl (bs hm (fun a hm => ?_) fun a hm => ?_)))))
     ·exact dps 17 a rfl (Mw.p rfl rfl (fun _ => R.pk a rfl (v := vB true) rfl) (Hb rfl (Mw.nil ((ag) ⟨true, aj, rfl, F, rfl, hm⟩))))
     ·refine Wp a rfl (fun _ => R.mv (v := J) rfl) (Wp a rfl (fun _ => R.mv (v := vI e) rfl) (Wp a rfl (fun _ => R.add rfl rfl) ?_))
      obtain ⟨bv, O, hm⟩ := ob hm
      refine Wp a rfl (fun _ => R.ix (α := List Int) k.rd O rfl rfl rfl) ?_
      obtain ⟨bw, c63, r64⟩ := (k.rd.at_ O).cell rfl
      refine Wq a rfl (fun _ c => R.ld rfl rfl (zam (k.rd.at_ O).1 rfl c63 c)) (Wp a rfl (fun _ => R.mv (v := vI d) rfl) ?_)
      obtain ⟨ak, P, hm⟩ := ob hm
      refine Wp a rfl (fun _ => R.ix (α := Int) r64 P rfl rfl rfl) (Wq a rfl (fun _ c => R.ld rfl rfl (zam (r64.at_ P).1 rfl (r64.at_ P).int c)) (Wp a rfl (fun _ => R.mv (v := J) rfl) (Wp a rfl (fun _ => R.mv (v := vI e) rfl) ?_)))
      obtain ⟨bz, Q, hm⟩ := ob hm
      refine Wp a rfl (fun _ => R.ix (α := List Int) k.rd Q rfl rfl rfl) ?_
      obtain ⟨b0, c70, r71⟩ := (k.rd.at_ Q).cell rfl
      refine Wq a rfl (fun _ c => R.ld rfl rfl (zam (k.rd.at_ Q).1 rfl c70 c)) (Wp a rfl (fun _ => R.mv (v := vI d) rfl) (Wp a rfl (fun _ => R.add rfl rfl) ?_))
      obtain ⟨am, S, hm⟩ := ob hm
      exact Wp a rfl (fun _ => R.ix (α := Int) r71 S rfl rfl rfl) (Wq a rfl (fun _ c => R.ld rfl rfl (zam (r71.at_ S).1 rfl (r71.at_ S).int c)) (Wp a rfl (fun _ => R.ge rfl rfl) (Mw.p rfl rfl (fun _ => R.pk a rfl (v := vB (decide ((am : Int) ≤ (ak : Int)))) rfl) (Hb rfl (Mw.nil ((ag) ⟨decide ((am : Int) ≤ (ak : Int)), aj, rfl, F, rfl, hm⟩))))))
  ·refine Cw.draw [] [(0, 0), (1, 0), (2, 0), (3, 0), (4, 0), (5, 0), (6, 0), (7, 0), (8, 1), (9, 0), (10, 0), (11, 0), (12, 1), (13, 0), (14, 0), (15, 0)] mixed (by kernel_rfl) fun an U => ?_
   have G := C.n U
   have H := I.ul G
   refine Di rfl (Dv i rfl (Mw.p rfl rfl (fun _ => zpF (xs := x1) H rfl) (Mw.p rfl rfl (fun _ => R.lt rfl rfl) (Db rfl (bs hm (fun b hm => ?_) fun b hm => ?_)))))
   ·refine Wp b rfl (fun _ => R.mv (v := x) rfl) (Wp b rfl (fun _ => R.mv (v := vI e) rfl) ?_)
    obtain ⟨ao, V, hm⟩ := ob hm
    refine Wp b rfl (fun _ => R.ix (α := Str) (y.ul G) V rfl rfl rfl) (Wq b rfl (fun _ c => R.ld rfl rfl (zam ((y.ul G).at_ V).1 rfl ((y.ul G).at_ V).str c)) (Wp b rfl (fun _ => R.mv (v := i) rfl) (Wp b rfl (fun _ => R.mv (v := vI d) rfl) ?_)))
    obtain ⟨ap, W, hm⟩ := ob hm
    exact Wp b rfl (fun _ => R.ix (α := Str) H W rfl rfl rfl) (Wq b rfl (fun _ c => R.ld rfl rfl (zam (H.at_ W).1 rfl (H.at_ W).str c)) (Wp b rfl (fun _ => R.seq rfl rfl) (Mw.p rfl rfl (fun _ => R.pk b rfl (v := vB (ao == ap)) rfl) (Hb rfl (Mw.nil ((ag) ⟨(ao == ap), an, rfl, U, rfl, hm⟩))))))
   ·exact dps 9 b rfl (Mw.p rfl rfl (fun _ => R.pk b rfl (v := vB false) rfl) (Hb rfl (Mw.nil ((ag) ⟨false, an, rfl, U, rfl, hm⟩))))
 ·refine Cw.exit ?_
  rw [az] at hm
  refine sr (mv f rfl (Nv f rfl ?_))
  cases hm
  exact Cw.ret (zhh rfl (Res.mk C ⟨f, rfl, K.s.sub rfl rfl⟩))
theorem p75 {x0 b x1 d k0 r} (f : Rd W K [b] x0) (h : Rd W K [d] x1) (hm : Vm.zdt x0 x1 = some r) : Q1 75 [b, d] W [] fun W' v => ∃ a, v = a ∧ Ow W' k0 [] [a] r :=
 (c75 (f.view _) (h.view _) hm).ad (fk k0) fun _ _ ⟨a, e, i⟩ => ⟨a, e, i.back (zhf _)⟩
end Go.Sx
