/- Walks: each function answers as its model, printed by a program of ours. Conditions: the arguments read as they are given. -/
import Derived.Test.YtnjcbcngjmkajaaGreatDoorETs
import Derived.Test.YtnjcbcngjmkajaaGreatDoorEM0
import Derived.Test.YtnjcbcngjmkajaaGreatDoorEW1
import Derived.Test.YtnjcbcngjmkajaaGreatDoorEW3
import Derived.Test.YtnjcbcngjmkajaaGreatDoorEW6
namespace Go.Sx
open Go Go.Proofs Go.Vm Rp
set_option linter.unusedVariables false
set_option linter.unusedSimpArgs false
variable {W W0 : CW} {K : List Nat}
theorem c7 {x0 ak am r} (h0 : Rd W0 [0] [ak, am] x0) (hm : Vm.zbo x0 = some r) : Q0 7 [.agg [ak, am].toArray] W0 fun Wf v => ∃ u0, v = .tuple [u0, vB r.2].toArray ∧ OwS Wf LL [] [u0] r.1 := by
 unfold Vm.zbo at hm
 obtain ⟨b8, b9, ao, N, a8⟩ := Repo.split h0
 simp only [List.cons.injEq, and_true, true_and] at ao
 obtain ⟨rfl, rfl⟩ := ao
 refine zap.of Tryz.func7 rfl rfl rfl rfl (sr (bo 2 rfl fun g1 W1 l1 b1 => ?_))
 have a2 := l1.o
 refine Gv (.slice none 0 0) rfl (Nb rfl (sr (Lw.t rfl (T.lit0 (α := List Str) 3 []) ?_)))
 rintro v3 _ ⟨W3, rfl, O, o3⟩
 have P := a2.n O
 refine Nv v3 rfl (ssr (la (b1.up O) (ca hm (fun _ => p23 (Repo.rd (K := [0]) x0.Commits x0.Heads (N.ul P) (a8.ul P))) fun z8 ar hm l10 => ?_)))
 have au := P.n l10
 refine Lw.r rfl (R.not rfl) (nl (cn hm (fun hm => ?_) fun hm => ?_))
 ·refine sr (Gv (.slice none 0 0) rfl (Nb rfl ?_))
  cases hm
  exact Cw.ret (zis rfl rfl (Res.mk au ⟨.slice none 0 0, rfl, (zmA []).sub rfl rfl⟩))
 ·refine sk (ssr (Ni rfl (Cw.block ?_)))
  obtain ⟨bc, be, hm⟩ := za1 hm
  refine Cw.loop 14 64 [4, 5, 6, 7, 8, 9] (fun m l w => ∃ k x a av Q S U h, CW.w h = w ∧ Le [3, 4] ar h ∧ l = [a, vI x, av, Q, S, U] ∧ Ow h 3 [] [a] k ∧ Vm.zbb x0 bc m k x = some r) _ ⟨([] : List (List Str)), 0, v3, undef, undef, undef, undef, ar, rfl, Le.refl _ _, rfl, (o3.up l10), hm⟩ ?_
  rintro (_ | cf) _ _ σ ⟨k, x, a, av, Q, S, U, h, rfl, V, rfl, W, hm⟩
  ·cases hm
  unfold Vm.zbb at hm
  have G := au.t V
  have X := ((b1.up O).up l10).up V
  refine ssr (mi rfl (fl X rfl (Lw.ln x0.Commits (N.ul G) rfl (Lw.lt rfl (nl (cn hm (fun hm => ?_) fun hm => ?_))))))
  ·refine sk (Cw.seq (Cw.block (sr (Ni rfl (Cw.block ?_)))))
   obtain ⟨bg, bh, hm⟩ := za1 hm
   refine Cw.loop 21 64 [4, 6, 7, 8, 9] (fun m l w => ∃ e y b Y Z aa d, CW.w d = w ∧ Le [3, 4] h d ∧ l = [b, vI y, Y, Z, aa] ∧ Ow d 3 [] [b] e ∧ Vm.zaV x0 x bg m e y = some r) _ ⟨k, 0, a, Q, S, U, h, rfl, Le.refl _ _, rfl, W, hm⟩ ?_
   rintro (_ | cg) _ _ σ ⟨e, y, b, Y, Z, aa, d, rfl, z, rfl, aw, hm⟩
   ·cases hm
   unfold Vm.zaV at hm
   have bi := G.t z
   refine ssr (mi rfl (fl (X.up z) rfl (mi rfl ?_)))
   obtain ⟨bj, ax, hm⟩ := ob hm
   have H := N.ul bi
   refine Lw.r rfl (R.ix (α := Commit) H ax rfl rfl rfl) (Lw.fa rfl ?_)
   obtain ⟨ch, c46, r47⟩ := (Commit.at2 (H.at_ ax)).cell rfl
   refine Lw.r rfl (R.ld rfl rfl c46) (Lw.ln bj.Tree r47 rfl (Lw.lt rfl (nl (cn hm (fun hm => ?_) fun hm => ?_))))
   ·refine sk ?_
    obtain ⟨bk, bl, hm⟩ := za1 hm
    refine Cw.join 32 64 [4, 7, 8, 9] (fun l w => ∃ I L ac ae af A, CW.w A = w ∧ Le [3, 4] d A ∧ l = [L, ac, ae, af] ∧ Ow A 3 [] [L] I ∧ bk I = some r) ?_ ?_
    ·rintro _ _ σ ⟨I, L, ac, ae, af, A, rfl, bm, rfl, bn, hm⟩
     rw [bl] at hm
     exact rg (mi rfl (Lw.add rfl (Ni rfl ((agm) ⟨I, w64 (y + 1), L, ac, ae, af, A, rfl, (z.j bm).w, rfl, bn, hm⟩))))
    ·refine Cw.block (sr (fl (X.up z) rfl (mi rfl ?_)))
     obtain ⟨ci, ay, hm⟩ := ob hm
     refine Lw.r rfl (R.ix (α := Commit) H ay rfl rfl rfl) (Lw.fa rfl ?_)
     obtain ⟨cj, c62, r63⟩ := (Commit.at2 (H.at_ ay)).cell rfl
     refine Lw.r rfl (R.ld rfl rfl c62) (mi rfl ?_)
     obtain ⟨u64, az, hm⟩ := ob hm
     refine Lw.r rfl (R.ix (α := File) r63 az rfl rfl rfl) (Lw.fa rfl ?_)
     obtain ⟨B, c67, r68⟩ := (File.at1 (r63.at_ az)).cell rfl
     refine Lw.r rfl (R.ld rfl rfl c67) (Nv B rfl (sr (Nb rfl (ssr (Ni rfl (Cw.block ?_))))))
     obtain ⟨bp, bq, hm⟩ := za1 hm
     refine Cw.loop 42 56 [8, 9] (fun m l w => ∃ C f D, CW.w D = w ∧ Le [] d D ∧ l = [vB C, vI f] ∧ Vm.zaI e u64 bp m C f = some r) _ ⟨false, 0, d, rfl, Le.refl _ _, rfl, hm⟩ ?_
     rintro (_ | ck) _ _ σ ⟨C, f, D, rfl, i, rfl, hm⟩
     ·cases hm
     unfold Vm.zaI at hm
     have a0 := i.o
     have E := aw.up i
     refine ssr (mi rfl (mv b rfl (Lw.ln e E.rd rfl (Lw.lt rfl (nl (cn hm (fun hm => ?_) fun hm => ?_))))))
     ·refine sk (Cw.seq (Cw.block (rg (mb rfl (mb rfl (bs hm (fun F hm => ?_) fun F hm => ?_))))))
      ·exact psk 6 F rfl (Pb F rfl (Nb rfl (rg (mi rfl (Lw.add rfl (Ni rfl ((agm) ⟨true, w64 (f + 1), D, rfl, i, rfl, hm⟩)))))))
      ·refine wak 6 F (mv b rfl (mi rfl ?_))
       obtain ⟨cl, a1, hm⟩ := ob hm
       refine Lw.r rfl (R.ix (α := List Str) E.rd a1 rfl rfl rfl) ?_
       obtain ⟨cm, c82, r83⟩ := (E.rd.at_ a1).cell rfl
       exact Lw.r rfl (R.ld rfl rfl c82) (mv B rfl (ca hm (fun _ => p24 (K := [0, 3]) (r83.sub (M := [0, 3]) rfl) ((r68.ul a0).sub (M := [0, 3]) rfl)) fun br bu hm bv => Pb F rfl (Nb rfl (rg (mi rfl (Lw.add rfl (Ni rfl ((agm) ⟨br, w64 (f + 1), bu, rfl, (i.j bv).w, rfl, hm⟩))))))))
     ·refine Cw.exit ?_
      rw [bq] at hm
      refine sr (mb rfl (Lw.r rfl (R.not rfl) (nl (cn hm (fun hm => ?_) fun hm => ?_))))
      ·refine rg (mv b rfl (Lw.t rfl (T.lit0 (α := Str) 4 []) ?_))
       rintro co _ ⟨cp, rfl, ah, bw⟩
       have bz := a0.n ah
       refine mv B rfl ?_
       obtain ⟨cq, b0, hm⟩ := ob hm
       refine Lw.t rfl (T.appP (α := Str) bw (r68.ul bz) rfl rfl b0) ?_
       rintro a3 _ ⟨ct, rfl, a5, ai⟩
       refine Lw.t rfl (T.bs 5 [a3] (cs := [a3]) (bsc ai.oc) rfl (bsv ai.oc)) ?_
       rintro _ _ ⟨cu, cv, rfl, rfl, aj, b2⟩
       obtain ⟨b3, b4, hm⟩ := ob hm
       refine Lw.t rfl (T.app1 (α := List Str) (J := [4]) (K' := []) (((E.up ah).up a5).up aj) b2 (ai.up aj).s rfl rfl b4) ?_
       rintro a6 _ ⟨b5, rfl, b6, b7⟩
       exact Nv a6 rfl ((ag) ⟨b3, a6, B, vB C, vI f, b5, rfl, ((((i.j ah).j a5).j aj).j b6).w, rfl, b7, hm⟩)
      ·exact sk ((ag) ⟨e, b, B, vB C, vI f, D, rfl, i.w, rfl, E, hm⟩)
   ·refine Cw.exit ?_
    rw [bh] at hm
    exact rg (mi rfl (Lw.add rfl (Ni rfl ((agm) ⟨e, w64 (x + 1), b, vI y, Y, Z, aa, d, rfl, (V.j z).w, rfl, aw, hm⟩))))
  ·refine Cw.exit ?_
   rw [be] at hm
   refine ssr (mv a rfl (Lw.ln k W.rd rfl (Lw.gt rfl (nl (cn hm (fun hm => ?_) fun hm => ?_)))))
   ·refine sr (Gv (.slice none 0 0) rfl (Nb rfl ?_))
    cases hm
    exact Cw.ret (zis rfl rfl (Res.mk G ⟨.slice none 0 0, rfl, (zmA []).sub rfl rfl⟩))
   ·refine sk (sr (mv a rfl (Gv a rfl (Nb rfl ?_))))
    cases hm
    exact Cw.ret (zis rfl rfl (Res.mk G ⟨a, rfl, W.s.sub rfl rfl⟩))
theorem p7 {x0 b d k0 r} (f : Rd W K [b, d] x0) (hm : Vm.zbo x0 = some r) : Q1 7 [.agg [b, d].toArray] W [] fun W' v => ∃ a, v = .tuple [a, vB r.2].toArray ∧ Ow W' k0 [] [a] r.1 :=
 (c7 (f.view _) hm).ad (fk k0) fun _ _ ⟨a, e, h⟩ => ⟨a, e, h.back (zhf _)⟩
theorem c46 {x0 e x1 f r} (J : Rd W0 [0] [e] x0) (K : Rd W0 [0] [f] x1) (hm : Vm.zeD x0 x1 = some r) : Q0 46 [e, f] W0 fun Wf v => v = vI r := by
 unfold Vm.zeD at hm
 refine zap.of Tryz.func46 rfl rfl rfl rfl (sr (Ni rfl (sr (Ni rfl (Cw.seq (Cw.block ?_))))))
 obtain ⟨L, M, hm⟩ := za1 hm
 refine Cw.loop 6 28 [5] (fun m l w => ∃ b h, CW.w h = w ∧ Le [] W0 h ∧ l = [vI b] ∧ Vm.zb7 x0 x1 L m b = some r) _ ⟨0, W0, rfl, Le.refl _ _, rfl, hm⟩ ?_
 rintro (_ | Q) _ _ σ ⟨b, h, rfl, D, rfl, hm⟩
 ·cases hm
 unfold Vm.zb7 at hm
 have E := D.o
 refine Cw.seq ?_
 obtain ⟨N, O, hm⟩ := za1 hm
 refine Cw.join 6 26 [26] (fun l w => ∃ z i, CW.w i = w ∧ Le [] h i ∧ l = [vB z] ∧ N z = some r) ?_ ?_
 ·rintro _ _ σ ⟨z, i, rfl, F, rfl, hm⟩
  rw [O] at hm
  have P := E.n F
  refine cn hm (fun hm => ?_) fun hm => ?_
  ·exact sk (Cw.block (rg (mi rfl (Lw.add rfl (Ni rfl ((agm) ⟨w64 (b + 1), i, rfl, (D.j F).w, rfl, hm⟩))))))
  ·refine Cw.exit ?_
   rw [M] at hm
   exact sr (mi rfl (Ni rfl (.ret (rt hm P))))
 ·refine Cw.draw [] [(0, 0), (1, 0), (2, 0), (3, 0), (4, 0), (5, 0), (6, 0), (7, 0), (8, 0), (9, 0), (10, 0), (11, 0), (12, 0), (13, 0), (14, 1), (15, 0), (16, 0), (17, 0), (18, 1), (19, 0), (20, 0)] mixed (by kernel_rfl) fun A k => ?_
  have G := E.n k
  have x := J.ul G
  refine Di rfl (Dv e rfl (Mw.p rfl rfl (fun _ => zpF (xs := x0) x rfl) (Mw.p rfl rfl (fun _ => R.lt rfl rfl) (Db rfl (bs hm (fun d hm => ?_) fun d hm => ?_)))))
  ·have y := K.ul G
   refine Wp d rfl (fun _ => R.mv (v := vI b) rfl) (Wp d rfl (fun _ => R.mv (v := f) rfl) (Wp d rfl (fun _ => zpF (xs := x1) y rfl) (Wp d rfl (fun _ => R.lt rfl rfl) (Mw.p rfl rfl (fun _ => R.pk d rfl (v := vB (decide ((b : Int) < ((x1.length : Int) : Int)))) rfl) (Db rfl (bs hm (fun a hm => ?_) fun a hm => ?_))))))
   ·refine Wp a rfl (fun _ => R.mv (v := e) rfl) (Wp a rfl (fun _ => R.mv (v := vI b) rfl) ?_)
    obtain ⟨H, B, hm⟩ := ob hm
    refine Wp a rfl (fun _ => R.ix (α := Str) x B rfl rfl rfl) (Wq a rfl (fun _ c => R.ld rfl rfl (zam (x.at_ B).1 rfl (x.at_ B).str c)) (Wp a rfl (fun _ => R.mv (v := f) rfl) (Wp a rfl (fun _ => R.mv (v := vI b) rfl) ?_)))
    obtain ⟨I, C, hm⟩ := ob hm
    exact Wp a rfl (fun _ => R.ix (α := Str) y C rfl rfl rfl) (Wq a rfl (fun _ c => R.ld rfl rfl (zam (y.at_ C).1 rfl (y.at_ C).str c)) (Wp a rfl (fun _ => R.seq rfl rfl) (Mw.p rfl rfl (fun _ => R.pk a rfl (v := vB (H == I)) rfl) (Mw.nil ((ag) ⟨(H == I), A, rfl, k, rfl, hm⟩)))))
   ·exact dps 9 a rfl (Mw.p rfl rfl (fun _ => R.pk a rfl (v := vB false) rfl) (Mw.nil ((ag) ⟨false, A, rfl, k, rfl, hm⟩)))
  ·exact dps 4 d rfl (Mw.p rfl rfl (fun _ => R.pk d rfl (v := vB false) rfl) (Db rfl (dps 9 rfl rfl (Mw.p rfl rfl (fun _ => R.pk rfl rfl (v := vB false) rfl) (Mw.nil ((ag) ⟨false, A, rfl, k, rfl, hm⟩))))))
theorem p46 {x0 a x1 b r} (d : Rd W K [a] x0) (f : Rd W K [b] x1) (hm : Vm.zeD x0 x1 = some r) : Q1 46 [a, b] W [] fun W' v => v = vI r :=
 (c46 (d.view _) (f.view _) hm).ad (fk 0) fun _ _ e => e
theorem c26 {x0 E x1 S r} (h0 : Rd W0 [0] [E] x0) (h1 : Rd W0 [0] [S] x1) (hm : Vm.zeO x0 x1 = some r) : Q0 26 [E, S] W0 fun Wf v => ∃ u0, v = u0 ∧ OwS Wf LL [] [u0] r := by
 unfold Vm.zeO at hm
 refine zap.of Tryz.func26 rfl rfl rfl rfl (sr (Nv (.slice none 0 0) rfl (sr (Nv (.slice none 0 0) rfl (Cw.seq (Cw.block ?_))))))
 obtain ⟨bi, bj, hm⟩ := za1 hm
 refine Cw.loop 11 79 [1, 5, 6, 7, 8, 9, 10] (fun m l w => ∃ h z d a j7 j8 U V au i, CW.w i = w ∧ Le [2, 5, 6] W0 i ∧ l = [d, a, j7, j8, U, V, au] ∧ Rd i [0] [d] h ∧ Ow i 2 [] [a] z ∧ Vm.zdx x0 bi m h z = some r) _ ⟨x1, ([] : List Delta), S, .slice none 0 0, undef, undef, undef, undef, undef, W0, rfl, Le.refl _ _, rfl, h1, owN 2 [], hm⟩ ?_
 rintro (_ | cq) _ _ σ ⟨h, z, d, a, j7, j8, U, V, au, i, rfl, av, rfl, r3, o6, hm⟩
 ·cases hm
 unfold Vm.zdx at hm
 have X := av.s
 refine ssr (mv d rfl (Lw.ln h r3 rfl (Lw.gt rfl (nl (cn hm (fun hm => ?_) fun hm => ?_)))))
 ·refine sk (Cw.block (sr (Gi rfl (Ni rfl (ssr (mv E rfl (Lw.ln x0 (h0.ul X) rfl (mi rfl (nl (Cw.block ?_))))))))))
  obtain ⟨bk, bl, hm⟩ := za1 hm
  refine Cw.loop 16 29 [6, 7, 8, 9, 16] (fun m l w => ∃ e b k Y Z f, CW.w f = w ∧ Le [] i f ∧ l = [vI e, vI b, Y, Z, vI k] ∧ Vm.zbL x0 h bk m e b k = some r) _ ⟨0, 0, 0, U, V, i, rfl, Le.refl _ _, rfl, hm⟩ ?_
  rintro (_ | ct) _ _ σ ⟨e, b, k, Y, Z, f, rfl, F, rfl, hm⟩
  ·cases hm
  unfold Vm.zbL at hm
  have G := F.o
  have x := o6.up F
  refine sr (Lw.lt rfl (nl (Cw.seq (cn hm (fun hm => ?_) fun hm => ?_))))
  ·refine sk ?_
   obtain ⟨bm, bn, hm⟩ := za1 hm
   refine Cw.join 18 28 [6, 7, 8, 9] (fun l w => ∃ H I aa ac K, CW.w K = w ∧ Le [] f K ∧ l = [vI H, vI I, aa, ac] ∧ bm H I = some r) ?_ ?_
   ·rintro _ _ σ ⟨H, I, aa, ac, K, rfl, bp, rfl, hm⟩
    rw [bn] at hm
    exact rg (Lw.add rfl (mi rfl (nl ((agm) ⟨H, I, w64 (k + 1), aa, ac, K, rfl, (F.j bp).w, rfl, hm⟩))))
   ·refine Cw.block (sr (mi rfl (Ni rfl (sr (mv E rfl (mi rfl ?_))))))
    obtain ⟨cu, ax, hm⟩ := ob hm
    have ay := h0.ul (X.trans G)
    have r41 := ay.cutV ax
    refine Lw.r rfl (R.sl ay ax rfl (.inr rfl) (.inl ⟨rfl, rfl⟩)) (mv d rfl (ca hm (fun _ => p46 r41 (r3.ul G)) fun ae az hm a0 => Ni rfl (sr (mi rfl (mi rfl (Lw.gt rfl (nl (cn hm (fun hm => ?_) fun hm => ?_))))))))
    ·exact rg (mi rfl (mi rfl (Gi rfl (Ni rfl ((ag) ⟨k, ae, vI k, vI ae, az, rfl, a0, rfl, hm⟩)))))
    ·exact sk ((ag) ⟨e, b, vI k, vI ae, az, rfl, a0, rfl, hm⟩)
  ·refine Cw.exit ?_
   rw [bl] at hm
   refine sr (mv a rfl (Lw.ln z x.rd rfl (Lw.sub rfl (Ni rfl ?_))))
   obtain ⟨bq, br, hm⟩ := za1 hm
   refine Cw.join 33 75 [5] (fun l w => ∃ L N A, CW.w A = w ∧ Le [2, 5, 6] f A ∧ l = [N] ∧ Ow A 2 [] [N] L ∧ bq L = some r) ?_ ?_
   ·rintro _ _ σ ⟨L, N, A, rfl, a1, rfl, bu, hm⟩
    rw [br] at hm
    have a2 := G.t a1
    refine rg (mv d rfl (mi rfl (Lw.r rfl (R.max rfl rfl) ?_)))
    obtain ⟨bv, a3, hm⟩ := ob hm
    have r59 := (r3.ul a2).cutV a3
    exact Lw.r rfl (R.sl (r3.ul a2) a3 rfl (.inr rfl) (.inl ⟨rfl, rfl⟩)) (Nv (cutV d (maxI 1 b : Int).toNat ((h.length : Int) : Int).toNat (Rp.sz (Str))) rfl ((agm) ⟨bv, L, (cutV d (maxI 1 b : Int).toNat ((h.length : Int) : Int).toNat (Rp.sz (Str))), N, vI e, vI b, Y, Z, vI (w64 ((z.length : Int) - 1)), A, rfl, ((av.j F).j a1).w, rfl, r59, bu, hm⟩))
   ·refine Cw.block (sr (mi rfl (Lw.gt rfl (Nb rfl (cn hm (fun hm => ?_) fun hm => ?_)))))
    ·refine rg (mv a rfl (mi rfl (mi rfl (Lw.r rfl (R.bd (zs := [vI 0, vI 0, .slice none 0 0]) (cs := [vI e, vI b, .slice none 0 0]) [(0, vI e), (1, vI b)] rfl rfl rfl (zaD rfl rfl (zaD rfl rfl zcU))) (Lw.t rfl (T.bs 3 [.agg [vI e, vI b, .slice none 0 0].toArray] (cs := [vI e, vI b, .slice none 0 0]) rfl rfl (bsA rfl)) ?_)))))
     rintro _ _ ⟨cv, cw, rfl, rfl, a4, bw⟩
     obtain ⟨bz, b0, hm⟩ := ob hm
     refine Lw.t rfl (T.app1 (α := Delta) (J := []) (K' := []) (x.up a4) bw (Delta.own e b ([] : List Str) (zmA [])) rfl rfl b0) ?_
     rintro a5 _ ⟨b1, rfl, b2, b3⟩
     exact Nv a5 rfl ((ag) ⟨bz, a5, b1, rfl, (a4.j b2).w, rfl, b3, hm⟩)
    ·obtain ⟨b4, b5, hm⟩ := za1 hm
     refine Cw.join 50 61 [50] (fun l w => ∃ af O, CW.w O = w ∧ Le [] f O ∧ l = [vB af] ∧ b4 af = some r) ?_ ?_
     ·rintro _ _ σ ⟨af, O, rfl, B, rfl, hm⟩
      rw [b5] at hm
      have ah := G.n B
      refine cn hm (fun hm => ?_) fun hm => ?_
      ·refine Cw.draw [] [(0, 0), (1, 0), (2, 0), (3, 0), (4, 0), (5, 0), (6, 1), (7, 0), (8, 0), (9, 1), (10, 2), (11, 3), (12, 0), (13, 0), (14, 3)] mixed (by kernel_rfl) fun cx ai => ?_
       have aj := ah.n ai
       have y := (x.up B).up ai
       refine Dv a rfl (Di rfl (Dv a rfl (Di rfl ?_)))
       obtain ⟨cy, C, hm⟩ := ob hm
       refine Mw.p rfl rfl (fun _ => R.ix (α := Delta) y.rd C rfl rfl rfl) (Df rfl ?_)
       obtain ⟨cz, c81, r82⟩ := (Delta.at2 (y.rd.at_ C)).cell rfl
       refine Mw.q rfl rfl (fun _ c => R.ld rfl rfl (zam (Delta.at2 (y.rd.at_ C)).1 rfl c81 c)) (Dv d rfl ?_)
       obtain ⟨a6, ak, hm⟩ := ob hm
       refine Mw.p rfl rfl (fun _ => R.ix (α := Str) (r3.ul aj) ak rfl rfl rfl) (Mw.q rfl rfl (fun _ c => R.ld rfl rfl (zam ((r3.ul aj).at_ ak).1 rfl ((r3.ul aj).at_ ak).str c)) (Mw.t rfl rfl (T.bs 4 [vS a6] (cs := [vS a6]) rfl rfl (bsv rfl)) ?_))
       rintro _ _ ⟨c0, c1, rfl, rfl, P, b6⟩
       refine m0 P fun c2 => ?_
       obtain ⟨c3, b7, a7, b8, b9⟩ := Ow.take (α := Delta) (β := List Str) (j := 5) (jf := 2) (y.up P) C (zam (Delta.at2 (y.rd.at_ C)).1 rfl c81 ⟨_, rfl, (P.sub (M := []) rfl)⟩) rfl
       rw [← b7]
       obtain ⟨c4, cb, hm⟩ := ob hm
       refine Mw.l rfl rfl (T.app1S (α := Str) (K' := []) b8 (b6.up a7) (rdS _) rfl rfl cb) ?_
       rintro c5 _ ⟨c6, rfl, a8, cc⟩
       obtain ⟨c7, cd, hm⟩ := ob hm
       refine Mw.p rfl rfl (fun _ => R.ix (α := Delta) y.rd cd rfl rfl rfl) (Df rfl ?_)
       obtain ⟨ce, cf, hm⟩ := ob hm
       refine Mw.lu rfl (T.stH (α := Delta) (β := List Str) (J := [5]) (b9.up (a8.sub (M := [5]) rfl) rfl) cc.s cf rfl rfl rfl rfl) ?_
       rintro _ _ ⟨cg, rfl, ch, ci⟩
       exact Mw.nil ((ag) ⟨ce, a, cg, rfl, (((((B.j ai).j P).j a7).j a8).j ch).w, rfl, ci, hm⟩)
      ·refine rg (mv a rfl (mv d rfl ?_))
       obtain ⟨am, a9, hm⟩ := ob hm
       refine Lw.r rfl (R.ix (α := Str) (r3.ul ah) a9 rfl rfl rfl) (Lw.r rfl (R.ld rfl rfl ((r3.ul ah).at_ a9).str) (Lw.t rfl (T.bsS (α := Str) (xs := [am]) 6 [] (W := O) [vS am] (Each.cons ((rdS _)) Each.nil) rfl) ?_))
       rintro Q _ ⟨c8, rfl, ba, bb⟩
       refine Lw.r rfl (R.bd (zs := [vI 0, vI 0, .slice none 0 0]) (cs := [vI 0, vI 0, Q]) [(2, Q)] rfl rfl rfl (zaD bb.oc rfl zcU)) (Lw.t rfl (T.bs 7 [.agg [vI 0, vI 0, Q].toArray] (cs := [vI 0, vI 0, Q]) rfl rfl (bsA rfl)) ?_)
       rintro _ _ ⟨c9, da, rfl, rfl, an, cj⟩
       obtain ⟨ck, cl, hm⟩ := ob hm
       refine Lw.t rfl (T.app1 (α := Delta) (J := [6]) (K' := []) (((x.up B).up ba).up an) cj (Delta.own 0 0 ([am] : List Str) (bb.up an).s) rfl rfl cl) ?_
       rintro bc _ ⟨cm, rfl, co, cp⟩
       exact Nv bc rfl ((ag) ⟨ck, bc, cm, rfl, (((B.j ba).j an).j co).w, rfl, cp, hm⟩)
     ·refine rg (mi rfl (Lw.ge rfl (mb rfl (bs hm (fun D hm => ?_) fun D hm => ?_))))
      ·refine wak 7 D (mv a rfl (mi rfl ?_))
       obtain ⟨be, bg, hm⟩ := ob hm
       refine Lw.r rfl (R.ix (α := Delta) x.rd bg rfl rfl rfl) (Lw.fa rfl ?_)
       obtain ⟨db, c123, r124⟩ := (Delta.at2 (x.rd.at_ bg)).cell rfl
       exact Lw.r rfl (R.ld rfl rfl c123) (Lw.ln be.Lines r124 rfl (Lw.gt rfl (Pb D rfl (Nb rfl ((ag) ⟨decide ((0 : Int) < ((be.Lines.length : Int) : Int)), f, rfl, Le.refl _ _, rfl, hm⟩)))))
      ·exact psk 7 D rfl (Pb D rfl (Nb rfl ((ag) ⟨false, f, rfl, Le.refl _ _, rfl, hm⟩)))
 ·refine Cw.exit ?_
  rw [bj] at hm
  refine sr (mv a rfl (Nv a rfl ?_))
  cases hm
  exact Cw.ret (zhh rfl (Res.mk X ⟨a, rfl, o6.s.sub rfl rfl⟩))
theorem p26 {x0 b x1 d k0 r} (f : Rd W K [b] x0) (h : Rd W K [d] x1) (hm : Vm.zeO x0 x1 = some r) : Q1 26 [b, d] W [] fun W' v => ∃ a, v = a ∧ Ow W' k0 [] [a] r :=
 (c26 (f.view _) (h.view _) hm).ad (fk k0) fun _ _ ⟨a, e, i⟩ => ⟨a, e, i.back (zhf _)⟩
theorem c27 {x0 a r} (b : Rd W0 [0] [a] x0) (hm : Vm.zec x0 = some r) : Q0 27 [a] W0 fun Wf v => v = vI r := by
 unfold Vm.zec at hm
 refine zap.of Tryz.func27 rfl rfl rfl rfl (sr (Ni rfl (sr (mv a rfl (Lw.ln x0 b rfl (Ni rfl (ssr (mv a rfl (Lw.ln x0 b rfl (mi rfl (nl (Cw.block ?_))))))))))))
 obtain ⟨B, C, hm⟩ := za1 hm
 refine Cw.loop 10 19 [3, 5, 10] (fun m l w => ∃ d e i f, CW.w f = w ∧ Le [2] W0 f ∧ l = [vI d, i, vI e] ∧ Vm.zb8 x0 B m d e = some r) _ ⟨(x0.length : Int), 0, undef, W0, rfl, Le.refl _ _, rfl, hm⟩ ?_
 rintro (_ | J) _ _ σ ⟨d, e, i, f, rfl, k, rfl, hm⟩
 ·cases hm
 unfold Vm.zb8 at hm
 have h := k.s
 refine sr (Lw.lt rfl (nl (Cw.seq (cn hm (fun hm => ?_) fun hm => ?_))))
 ·refine sk (Cw.seq (Cw.block (sr ?_)))
  obtain ⟨x, y, hm⟩ := ob hm
  refine Lw.r rfl (R.ix (α := Delta) (b.ul h) y rfl rfl rfl) ?_
  obtain ⟨x12, c13, _, r14⟩ := ((b.ul h).at_ y).cells
  obtain ⟨K, rfl, r16⟩ := Delta.split r14
  refine Lw.r rfl (R.lda c13 rfl rfl) (al 2 [vI 0, vI 0, .slice none 0 0] fun D L z E => ?_)
  have F := z.o
  refine sta E (zaa rfl (zaa rfl (zaa r16.oc zaw))) fun G A H => ?_
  have I := F.t A
  exact nl (rg (mi rfl (fl H rfl (Lw.ln x.Lines (r16.ul I) rfl (Lw.add rfl (Ni rfl (rg (Lw.add rfl (mi rfl (nl ((agm) ⟨w64 (d + (x.Lines.length : Int)), w64 (e + 1), ptr (bx D), G, rfl, ((k.j z).j A).w, rfl, hm⟩)))))))))))
 ·refine Cw.exit ?_
  rw [C] at hm
  exact sr (mi rfl (Ni rfl (.ret (rt hm h))))
theorem p27 {x0 a r} (b : Rd W K [a] x0) (hm : Vm.zec x0 = some r) : Q1 27 [a] W [] fun W' v => v = vI r :=
 (c27 (b.view _) hm).ad (fk 0) fun _ _ e => e
theorem c8 {x0 z r} (d : Rd W0 [0] [z] x0) (hm : Vm.zeE x0 = some r) : Q0 8 [z] W0 fun Wf v => ∃ u0, v = u0 ∧ OwS Wf LL [] [u0] r := by
 unfold Vm.zeE at hm
 refine zap.of Tryz.func8 rfl rfl rfl rfl (sr (Nv (.slice none 0 0) rfl (ssr (mv z rfl (Lw.ln x0 d rfl (Lw.gt rfl (nl (cn hm (fun hm => ?_) fun hm => ?_))))))))
 ·refine sr (Nv (.slice none 0 0) rfl ?_)
  cases hm
  exact Cw.ret (zhh rfl (Res.mk (Le.refl _ _) ⟨.slice none 0 0, rfl, (zmA []).sub rfl rfl⟩))
 ·refine sk (ssr (mv z rfl (Lw.ln x0 d rfl (mi rfl (nl (Cw.block ?_))))))
  obtain ⟨K8, b9, hm⟩ := za1 hm
  refine Cw.loop 19 26 [2, 4, 19] (fun m l w => ∃ P Q S j5 A, CW.w A = w ∧ Le [] W0 A ∧ l = [S, j5, vI Q] ∧ Ow A 2 [] [S] P ∧ Vm.zb9 x0 K8 m P Q = some r) _ ⟨([] : List Packed), 0, .slice none 0 0, undef, W0, rfl, Le.refl _ _, rfl, owN 2 [], hm⟩ ?_
  rintro (_ | m9) _ _ σ ⟨P, Q, S, j5, A, rfl, l7, rfl, o4, hm⟩
  ·cases hm
  unfold Vm.zb9 at hm
  have G := l7.o
  refine sr (Lw.lt rfl (nl (Cw.seq (cn hm (fun hm => ?_) fun hm => ?_))))
  ·refine sk (Cw.seq (Cw.block (sr ?_)))
   obtain ⟨df, bb, hm⟩ := ob hm
   refine Lw.r rfl (R.ix (α := List Str) (d.ul G) bb rfl rfl rfl) ?_
   obtain ⟨aj, c16, r17⟩ := ((d.ul G).at_ bb).cell rfl
   refine Lw.r rfl (R.ld rfl rfl c16) (Nv aj rfl (sr (mv aj rfl (ca hm (fun _ => p25 r17) fun dg cc hm ak => ?_))))
   have cd := G.n ak
   refine Lw.r rfl (R.not rfl) (nl (cn hm (fun hm => ?_) fun hm => ?_))
   ·refine sr (Nv (.slice none 0 0) rfl ?_)
    cases hm
    exact Cw.ret (zhh rfl (Res.mk cd ⟨.slice none 0 0, rfl, (zmA []).sub rfl rfl⟩))
   ·exact sk (rg (Lw.add rfl (mi rfl (nl ((agm) ⟨P, w64 (Q + 1), S, aj, cc, rfl, (l7.j ak).w, rfl, (o4.up ak), hm⟩)))))
  ·refine Cw.exit ?_
   rw [b9] at hm
   refine sr (Nv (.slice none 0 0) rfl (sr (Nv (.slice none 0 0) rfl (ssr (mv z rfl (Lw.ln x0 (d.ul G) rfl (mi rfl (nl (Cw.block ?_)))))))))
   obtain ⟨ce, cf, hm⟩ := za1 hm
   refine Cw.loop 29 77 [5, 6, 7, 8, 9, 10, 11, 12, 13, 29] (fun m l w => ∃ am U H h B bc be bg bh an ao ap I, CW.w I = w ∧ Le [3, 4, 5, 6, 7] A I ∧ l = [h, B, bc, be, bg, bh, an, ao, ap, vI H] ∧ Ow I 3 [] [h] am ∧ Ow I 4 [] [B] U ∧ Vm.zaQ x0 ce m am U H = some r) _ ⟨([] : List Packed), ([] : List Int), 0, .slice none 0 0, .slice none 0 0, undef, undef, undef, undef, undef, undef, undef, A, rfl, Le.refl _ _, rfl, owN 3 [], owN 4 [], hm⟩ ?_
   rintro (_ | dh) _ _ σ ⟨am, U, H, h, B, bc, be, bg, bh, an, ao, ap, I, rfl, bi, rfl, bj, cg, hm⟩
   ·cases hm
   unfold Vm.zaQ at hm
   have V := G.t bi
   refine sr (Lw.lt rfl (nl (Cw.seq (cn hm (fun hm => ?_) fun hm => ?_))))
   ·refine sk (Cw.seq (Cw.block (sr (mi rfl ?_))))
    obtain ⟨ch, bk, hm⟩ := ob hm
    refine Lw.r rfl (R.ix (α := List Str) (d.ul V) bk rfl rfl rfl) ?_
    obtain ⟨W, c49, r50⟩ := ((d.ul V).at_ bk).cell rfl
    refine Lw.r rfl (R.ld rfl rfl c49) (Gi rfl (Nv W rfl (sr (mv W rfl (cr hm (fun _ => p26 (k0 := 5) (rdN (K := [0])) r50) ?_)))))
    rintro ci aq di hm X ⟨_, rfl, ar⟩
    have bl := X.o
    refine Lw.r rfl (R.bd (zs := [vI 0, .slice none 0 0]) (cs := [vI (-1), aq]) [(0, vI (-1)), (1, aq)] rfl rfl rfl (zaD rfl rfl (zaD ar.oc rfl zcU))) (al 6 [vI 0, .slice none 0 0] fun au dj C cj => ?_)
    have bm := C.o
    refine sta cj (zaa rfl (zaa (ar.up C).oc zaw)) fun bn L ck => ?_
    have bp := L.s
    refine Ni rfl (ssr (mv z rfl (mi rfl ?_)))
    obtain ⟨bq, br, hm⟩ := ob hm
    have bu := d.ul (((V.trans bl).trans bm).trans bp)
    have r74 := bu.cutV br
    refine Lw.r rfl (R.sl bu br rfl (.inl ⟨rfl, rfl⟩) (.inr rfl)) (Lw.ln bq r74 rfl (mi rfl (nl (Cw.block ?_))))
    obtain ⟨cl, cm, hm⟩ := za1 hm
    refine Cw.loop 41 68 [10, 11, 12, 13, 41] (fun m l w => ∃ e a f D av aw Y i k, CW.w k = w ∧ Le [6, 7] bn k ∧ l = [vI e, av, aw, Y, vI a] ∧ Ow k 5 [] [i] D ∧ Bx k 6 au [vI f, i] ∧ Vm.zbp U ch bq cl m e a f D = some r) _ ⟨1, 0, (-1), ci, an, ao, ap, aq, bn, rfl, Le.refl _ _, rfl, ((ar.up C).up L), ck, hm⟩ ?_
    rintro (_ | dk) _ _ σ ⟨e, a, f, D, av, aw, Y, i, k, rfl, M, rfl, ax, ay, hm⟩
    ·cases hm
    unfold Vm.zbp at hm
    have az := M.s
    have Z := (((cg.up X).up C).up L).up M
    refine sr (Lw.lt rfl (nl (Cw.seq (cn hm (fun hm => ?_) fun hm => ?_))))
    ·refine sk ?_
     obtain ⟨co, cp, hm⟩ := za1 hm
     refine Cw.join 43 67 [10, 11, 12, 13] (fun l w => ∃ aa ac ae a0 a1 a2 af E, CW.w E = w ∧ Le [6, 7] k E ∧ l = [vI aa, a0, a1, a2] ∧ Ow E 5 [] [af] ae ∧ Bx E 6 au [vI ac, af] ∧ co aa ac ae = some r) ?_ ?_
     ·rintro _ _ σ ⟨aa, ac, ae, a0, a1, a2, af, E, rfl, cq, rfl, ct, cu, hm⟩
      rw [cp] at hm
      exact rg (Lw.add rfl (mi rfl (nl ((agm) ⟨aa, w64 (a + 1), ac, ae, a0, a1, a2, af, E, rfl, (M.j cq).w, rfl, ct, cu, hm⟩))))
     ·refine Cw.block (sr (mi rfl ?_))
      obtain ⟨dl, bv, hm⟩ := ob hm
      refine Lw.r rfl (R.ix (α := List Str) (r74.ul az) bv rfl rfl rfl) ?_
      obtain ⟨N, c112, r113⟩ := ((r74.ul az).at_ bv).cell rfl
      refine Lw.r rfl (R.ld rfl rfl c112) (Gi rfl (Nv N rfl (ssr (mv B rfl (mi rfl ?_)))))
      obtain ⟨dm, bw, hm⟩ := ob hm
      refine Lw.r rfl (R.ix (α := Int) Z.rd bw rfl rfl rfl) (Lw.r rfl (R.ld rfl rfl (Z.rd.at_ bw).int) (Lw.ge rfl (nl (cn hm (fun hm => ?_) fun hm => ?_))))
      ·exact Cw.exit ((ag) ⟨e, f, D, vI a, N, Y, i, k, rfl, Le.refl _ _, rfl, ax, ay, hm⟩)
      ·refine sk (sr (mv N rfl (mv W rfl (cr hm (fun _ => p26 (k0 := 7) r113 (r50.ul (((bl.trans bm).trans bp).trans az))) ?_))))
       rintro cv b dn hm O ⟨_, rfl, bz⟩
       refine Nv b rfl (Cw.seq (Cw.draw [] [(0, 0), (2, 0), (3, 1), (1, 2), (4, 3), (5, 0)] mixed (by kernel_rfl) fun dp x => ?_))
       have b0 := (ay.up O).up x
       refine Dv b rfl (Dfl b0 rfl rfl rfl ?_)
       obtain ⟨dq, cw, hm⟩ := ob hm
       refine Mw.t rfl rfl (T.call rfl (p27 (K := [7])  (bz.up x).rd cw)) ?_
       rintro _ _ ⟨dr, rfl, y, rfl⟩
       have b1 := ((ax.up O).up x).up y
       refine m0 y fun ds => ?_
       obtain ⟨dt, cx, hm⟩ := ob hm
       refine Mw.l rfl rfl (T.call rfl (p27 (K := [5])  b1.rd cx)) ?_
       rintro _ _ ⟨cy, rfl, F, rfl⟩
       have b2 := (b0.up y).up F
       refine Mw.p rfl rfl (fun _ => R.lt rfl rfl) (Mw.nil (cn hm (fun hm => ?_) fun hm => ?_))
       ·refine Cw.draw [6] [(0, 0), (1, 0), (2, 0), (3, 0), (4, 0), (5, 0), (6, 1), (7, 0), (8, 2), (9, 0)] mixed (by kernel_rfl) fun du ah => ?_
        have a3 := ((((Z.up O).up x).up y).up F).up ah
        have a4 := (((bz.up x).up y).up F).up ah
        refine Di rfl (Dv b rfl (Mw.p rfl rfl (fun _ => R.bd (zs := [vI 0, .slice none 0 0]) (cs := [vI a, b]) [(0, vI a), (1, b)] rfl rfl rfl (zaD rfl rfl (zaD a4.oc rfl zcU))) (Dv B rfl (Di rfl ?_))))
        obtain ⟨cz, a5, hm⟩ := ob hm
        refine Mw.p rfl rfl (fun _ => R.ix (α := Int) a3.rd a5 rfl rfl rfl) (Mw.q rfl rfl (fun _ c => R.ld rfl rfl (zam (a3.rd.at_ a5).1 rfl (a3.rd.at_ a5).int c)) (Mw.p rfl rfl (fun _ => R.add rfl rfl) (Mw.tu rfl (T.sta (vs := [vI a, b]) (b2.up ah) rfl rfl (zaa rfl (zaa a4.oc zaw)) rfl rfl) ?_)))
        rintro _ _ ⟨dv, rfl, a6, c0⟩
        refine m0 a6 fun dw => Hi rfl (Mw.nil ?_)
        obtain ⟨c1, c2, b3, c3⟩ := (a4.up a6).dyeO 5
        exact (ag) ⟨w64 (cz + 1), a, cv, vI a, N, b, b, c1, c2, ((((((O.j x).j y).j F).j ah).j a6).j b3).w, rfl, c3, (c0.up b3), hm⟩
       ·exact sk ((ag) ⟨e, f, D, vI a, N, b, i, cy, rfl, (((O.j x).j y).j F).w, rfl, (b1.up F), b2, hm⟩)
    ·refine Cw.exit ?_
     rw [cm] at hm
     refine rg (mv h rfl (la ay (Lw.t rfl (T.bs 8 [.agg [vI f, i].toArray] (cs := [vI f, i]) rfl rfl (bsA rfl)) ?_)))
     rintro _ _ ⟨dx, dy, rfl, rfl, ai, c4⟩
     obtain ⟨c5, c6, hm⟩ := ob hm
     refine Lw.t rfl (T.app1 (α := Packed) (J := [5]) (K' := []) (((((bj.up X).up C).up L).up M).up ai) c4 (Packed.own f D (ax.up ai).s) rfl rfl c6) ?_
     rintro b4 _ ⟨dz, rfl, b5, c7⟩
     refine mv B rfl (mi rfl (Lw.t rfl (T.bs 9 [vI e] (cs := [vI e]) rfl rfl (bsv rfl)) ?_))
     rintro _ _ ⟨d0, d1, rfl, rfl, a7, c9⟩
     obtain ⟨da, db, hm⟩ := ob hm
     refine Lw.t rfl (T.app1S (α := Int) (K' := []) (((Z.up ai).up b5).up a7) c9 (rdI _) rfl rfl db) ?_
     rintro b6 _ ⟨dc, rfl, b7, dd⟩
     exact Gv b4 rfl (Nv b6 rfl (rg (Lw.add rfl (mi rfl (nl ((agm) ⟨c5, da, w64 (H + 1), b4, b6, vI H, W, ptr (bx au), vI e, av, aw, Y, dc, rfl, ((((((((bi.j X).j C).j L).j M).j ai).j b5).j a7).j b7).w, rfl, ((c7.up a7).up b7), dd, hm⟩))))))
   ·refine Cw.exit ?_
    rw [cf] at hm
    refine sr (mv h rfl (Nv h rfl ?_))
    cases hm
    exact Cw.ret (zhh rfl (Res.mk V ⟨h, rfl, bj.s.sub rfl rfl⟩))
theorem p8 {x0 b k0 r} (d : Rd W K [b] x0) (hm : Vm.zeE x0 = some r) : Q1 8 [b] W [] fun W' v => ∃ a, v = a ∧ Ow W' k0 [] [a] r :=
 (c8 (d.view _) hm).ad (fk k0) fun _ _ ⟨a, e, f⟩ => ⟨a, e, f.back (zhf _)⟩
theorem c68 {x0 i r} (k : Rd W0 [0] [i] x0) (hm : Vm.zd2 x0 = some r) : Q0 68 [i] W0 fun Wf v => v = vB r := by
 unfold Vm.zd2 at hm
 refine zap.of Tryz.func68 rfl rfl rfl rfl (sr (Nb rfl (ssr (mv i rfl (Lw.ln x0 k rfl (Lw.gt rfl (nl (cn hm (fun hm => ?_) fun hm => ?_))))))))
 ·exact sr (Nb rfl (.ret (rt hm (Le.refl _ _))))
 ·refine sk (ssr (mv i rfl (Lw.ln x0 k rfl (mi rfl (nl (Cw.block ?_))))))
  obtain ⟨U, V, hm⟩ := za1 hm
  refine Cw.loop 10 45 [2, 4, 10] (fun m l w => ∃ b x M y, CW.w y = w ∧ Le [2] W0 y ∧ l = [vB b, M, vI x] ∧ Vm.zbF x0 U m b x = some r) _ ⟨false, 0, undef, W0, rfl, Le.refl _ _, rfl, hm⟩ ?_
  rintro (_ | m7) _ _ σ ⟨b, x, M, y, rfl, N, rfl, hm⟩
  ·cases hm
  unfold Vm.zbF at hm
  have d := N.s
  refine sr (Lw.lt rfl (nl (Cw.seq (cn hm (fun hm => ?_) fun hm => ?_))))
  ·refine sk ?_
   obtain ⟨W, X, hm⟩ := za1 hm
   refine Cw.join 12 44 [2, 4] (fun l w => ∃ z F A, CW.w A = w ∧ Le [2] y A ∧ l = [vB z, F] ∧ W z = some r) ?_ ?_
   ·rintro _ _ σ ⟨z, F, A, rfl, Y, rfl, hm⟩
    rw [X] at hm
    exact rg (Lw.add rfl (mi rfl (nl ((agm) ⟨z, w64 (x + 1), F, A, rfl, (N.j Y).w, rfl, hm⟩))))
   ·refine Cw.block (sr ?_)
    obtain ⟨Z, O, hm⟩ := ob hm
    refine Lw.r rfl (R.ix (α := Delta) (k.ul d) O rfl rfl rfl) ?_
    obtain ⟨x18, c19, _, r20⟩ := ((k.ul d).at_ O).cells
    obtain ⟨av, rfl, r22⟩ := Delta.split r20
    refine Lw.r rfl (R.lda c19 rfl rfl) (al 2 [vI 0, vI 0, .slice none 0 0] fun P aw G aa => ?_)
    have H := G.o
    refine sta aa (zaa rfl (zaa rfl (zaa r22.oc zaw))) fun B I a => ?_
    have J := I.s
    refine nl (ssr ?_)
    have Q := r22.ul (H.trans J)
    refine fl a rfl (Lw.ln Z.Lines Q rfl (Lw.gt rfl (nl (cn hm (fun hm => ?_) fun hm => ?_))))
    ·refine Cw.seq ?_
     obtain ⟨ac, ae, hm⟩ := za1 hm
     refine Cw.join 18 31 [31] (fun l w => ∃ K C, CW.w C = w ∧ Le [] B C ∧ l = [vB K] ∧ ac K = some r) ?_ ?_
     ·rintro _ _ σ ⟨K, C, rfl, S, rfl, hm⟩
      rw [ae] at hm
      have af := ((d.trans H).trans J).n S
      refine cn hm (fun hm => ?_) fun hm => ?_
      ·exact sr (Nb rfl (.ret (rt hm af)))
      ·exact sk (Cw.exit ((ag) ⟨b, ptr (bx P), C, rfl, ((G.j I).j S).w, rfl, hm⟩))
     ·refine rg (fl a rfl (Lw.ne rfl (mb rfl (bs hm (fun e hm => ?_) fun e hm => ?_))))
      ·exact psk 3 e rfl (Pb e rfl (mb rfl (psk 4 rfl rfl (Pb rfl rfl (nl ((ag) ⟨true, B, rfl, Le.refl _ _, rfl, hm⟩))))))
      ·refine wak 3 e (fl a rfl (Lw.ne rfl (Pb e rfl (mb rfl (bs hm (fun f hm => ?_) fun f hm => ?_)))))
       ·exact psk 4 f rfl (Pb f rfl (nl ((ag) ⟨true, B, rfl, Le.refl _ _, rfl, hm⟩)))
       ·exact wak 4 f (fl a rfl (ca hm (fun _ => p25 Q) fun ah ai hm aj => Lw.r rfl (R.not rfl) (Pb f rfl (nl ((ag) ⟨(!ah), ai, rfl, aj, rfl, hm⟩)))))
    ·refine sk ?_
     obtain ⟨ak, am, hm⟩ := za1 hm
     refine Cw.join 32 44 [44] (fun l w => ∃ L D, CW.w D = w ∧ Le [] B D ∧ l = [vB L] ∧ ak L = some r) ?_ ?_
     ·rintro _ _ σ ⟨L, D, rfl, T, rfl, hm⟩
      rw [am] at hm
      have an := ((d.trans H).trans J).n T
      refine cn hm (fun hm => ?_) fun hm => ?_
      ·exact sr (Nb rfl (.ret (rt hm an)))
      ·exact sk ((ag) ⟨b, ptr (bx P), D, rfl, ((G.j I).j T).w, rfl, hm⟩)
     ·refine rg (fl a rfl (ca hm (fun _ => p29) fun ax ao hm E => Lw.r rfl (R.not rfl) (mb rfl (bs hm (fun h hm => ?_) fun h hm => ?_))))
      ·exact psk 7 h rfl (Pb h rfl (nl ((ag) ⟨true, ao, rfl, E, rfl, hm⟩)))
      ·exact wak 7 h (fl (a.up E) rfl (fl (a.up E) rfl (Lw.sub rfl (ca hm (fun _ => p29) fun ap aq hm ar => Lw.r rfl (R.not rfl) (Pb h rfl (nl ((ag) ⟨(!ap), aq, rfl, (E.j ar).w, rfl, hm⟩)))))))
  ·refine Cw.exit ?_
   rw [V] at hm
   exact sr (Nb rfl (.ret (rt hm d)))
theorem p68 {x0 a r} (b : Rd W K [a] x0) (hm : Vm.zd2 x0 = some r) : Q1 68 [a] W [] fun W' v => v = vB r :=
 (c68 (b.view _) hm).ad (fk 0) fun _ _ e => e
theorem c47 {x0 f x1 C r} (W : Rd W0 [0] [f] x0) (D : Rd W0 [0] [C] x1) (hm : Vm.zco x0 x1 = some r) : Q0 47 [f, C] W0 fun Wf v => ∃ X, v = .tuple [X, vB r.2].toArray ∧ OwS Wf LL [] [X] r.1 := by
 unfold Vm.zco at hm
 refine zap.of Tryz.func47 rfl rfl rfl rfl (sr (Gv (.slice none 0 0) rfl (Nb rfl (Cw.seq ?_))))
 obtain ⟨K3, ar, hm⟩ := za1 hm
 refine Cw.join 9 16 [16] (fun l w => ∃ L h, CW.w h = w ∧ Le [] W0 h ∧ l = [vB L] ∧ K3 L = some r) ?_ ?_
 ·rintro _ _ σ ⟨L, h, rfl, l2, rfl, hm⟩
  rw [ar] at hm
  have M := l2.o
  refine cn hm (fun hm => ?_) fun hm => ?_
  ·refine sr (Gv (.slice none 0 0) rfl (Nb rfl ?_))
   cases hm
   exact Cw.ret (zis rfl rfl (Res.mk M ⟨.slice none 0 0, rfl, (zmA []).sub rfl rfl⟩))
  ·refine sk (sr (Nv (.slice none 0 0) rfl (ssr (mv C rfl (Lw.ln x1 (D.ul M) rfl (mi rfl (nl (Cw.block ?_))))))))
   obtain ⟨av, aw, hm⟩ := za1 hm
   refine Cw.loop 19 52 [4, 5, 6, 8, 19] (fun m l w => ∃ i k N E x a Y d, CW.w d = w ∧ Le [3, 4] h d ∧ l = [x, vB k, a, Y, vI E] ∧ Ow d 2 [] [x] i ∧ Ow d 3 [] [a] N ∧ Vm.zbG x0 x1 av m i k N E = some r) _ ⟨([] : List Str), false, ([] : List Str), 0, .slice none 0 0, .slice none 0 0, undef, h, rfl, Le.refl _ _, rfl, owN 2 [], owN 3 [], hm⟩ ?_
   rintro (_ | bl) _ _ σ ⟨i, k, N, E, x, a, Y, d, rfl, Z, rfl, o9, O, hm⟩
   ·cases hm
   unfold Vm.zbG at hm
   have y := M.t Z
   refine sr (Lw.lt rfl (nl (Cw.seq (cn hm (fun hm => ?_) fun hm => ?_))))
   ·refine sk ?_
    obtain ⟨ay, az, hm⟩ := za1 hm
    refine Cw.join 21 51 [4, 5, 6, 8] (fun l w => ∃ F G H I J P e, CW.w e = w ∧ Le [3, 4] d e ∧ l = [I, vB G, J, P] ∧ Ow e 2 [] [I] F ∧ Ow e 3 [] [J] H ∧ ay F G H = some r) ?_ ?_
    ·rintro _ _ σ ⟨F, G, H, I, J, P, e, rfl, a0, rfl, a1, a2, hm⟩
     rw [az] at hm
     exact rg (Lw.add rfl (mi rfl (nl ((agm) ⟨F, G, H, w64 (E + 1), I, J, P, e, rfl, (Z.j a0).w, rfl, a1, a2, hm⟩))))
    ·refine Cw.block (sr ?_)
     obtain ⟨a3, aa, hm⟩ := ob hm
     refine Lw.r rfl (R.ix (α := Delta) (D.ul y) aa rfl rfl rfl) ?_
     obtain ⟨x35, c36, _, r37⟩ := ((D.ul y).at_ aa).cells
     obtain ⟨bm, rfl, r39⟩ := Delta.split r37
     refine Lw.r rfl (R.lda c36 rfl rfl) (al 4 [vI 0, vI 0, .slice none 0 0] fun ac bn z a5 => ?_)
     have Q := z.o
     refine sta a5 (zaa rfl (zaa rfl (zaa r39.oc zaw))) fun bp A b => ?_
     have S := A.s
     have ae := (o9.up z).up A
     have af := (O.up z).up A
     refine nl (Cw.block (sr ?_))
     have ah := r39.ul (Q.trans S)
     refine fl b rfl (Lw.ln a3.Lines ah rfl (Lw.gt rfl (Nb rfl (cn hm (fun hm => ?_) fun hm => ?_))))
     ·refine rg (mv a rfl (fl b rfl ?_))
      obtain ⟨a6, a7, hm⟩ := ob hm
      refine Lw.t rfl (T.appP (α := Str) af ah rfl rfl a7) ?_
      rintro ai _ ⟨a8, rfl, aj, a9⟩
      exact Nv ai rfl ((ag) ⟨i, k, a6, x, ai, ptr (bx ac), a8, rfl, ((z.j A).j aj).w, rfl, (ae.up aj), a9, hm⟩)
     ·refine sr ?_
      have U := W.ul ((y.trans Q).trans S)
      refine fl b rfl (fl b rfl (Lw.add rfl (mv f rfl (Lw.ln x0 U rfl (Lw.gt rfl (Nb rfl (cn hm (fun hm => ?_) fun hm => ?_)))))))
      ·refine sr (Gv (.slice none 0 0) rfl (Nb rfl ?_))
       cases hm
       exact Cw.ret (zis rfl rfl (Res.mk ((y.trans Q).trans S) ⟨.slice none 0 0, rfl, (zmA []).sub rfl rfl⟩))
      ·refine rg (mv a rfl (mv f rfl (fl b rfl (fl b rfl (fl b rfl (Lw.add rfl ?_))))))
       obtain ⟨bq, ak, hm⟩ := ob hm
       have r61 := U.cutV ak
       refine Lw.r rfl (R.sl U ak rfl (.inr rfl) (.inr rfl)) ?_
       obtain ⟨ba, bb, hm⟩ := ob hm
       refine Lw.t rfl (T.appP (α := Str) af r61 rfl rfl bb) ?_
       rintro am _ ⟨bc, rfl, an, be⟩
       exact Nv am rfl ((ag) ⟨i, k, ba, x, am, ptr (bx ac), bc, rfl, ((z.j A).j an).w, rfl, (ae.up an), be, hm⟩)
   ·refine Cw.exit ?_
    rw [aw] at hm
    refine ssr (mv a rfl (ca hm (fun _ => p25 (K := [3]) O.rd) fun br bu hm ao => ?_))
    have ap := y.n ao
    refine Lw.r rfl (R.not rfl) (nl (cn hm (fun hm => ?_) fun hm => ?_))
    ·refine sr (Gv (.slice none 0 0) rfl (Nb rfl ?_))
     cases hm
     exact Cw.ret (zis rfl rfl (Res.mk ap ⟨.slice none 0 0, rfl, (zmA []).sub rfl rfl⟩))
    ·refine sk (sr (mv a rfl (Gv a rfl (Nb rfl ?_))))
     cases hm
     exact Cw.ret (zis rfl rfl (Res.mk ap ⟨a, rfl, (O.up ao).s.sub rfl rfl⟩))
 ·refine rg (mv f rfl (ca hm (fun _ => p25 W) fun bv bg hm V => ?_))
  have bh := V.o
  refine Lw.r rfl (R.not rfl) (mb rfl (bs hm (fun B hm => ?_) fun B hm => ?_))
  ·exact psk 3 B rfl (Pb B rfl (nl ((ag) ⟨true, bg, rfl, V, rfl, hm⟩)))
  ·exact wak 3 B (mv C rfl (ca hm (fun _ => p68 (D.ul bh)) fun bi bj hm bk => Lw.r rfl (R.not rfl) (Pb B rfl (nl ((ag) ⟨(!bi), bj, rfl, (V.j bk).w, rfl, hm⟩)))))
theorem p47 {x0 b x1 d k0 r} (f : Rd W K [b] x0) (h : Rd W K [d] x1) (hm : Vm.zco x0 x1 = some r) : Q1 47 [b, d] W [] fun W' v => ∃ a, v = .tuple [a, vB r.2].toArray ∧ Ow W' k0 [] [a] r.1 :=
 (c47 (f.view _) (h.view _) hm).ad (fk k0) fun _ _ ⟨a, e, i⟩ => ⟨a, e, i.back (zhf _)⟩
theorem c28 {x0 I r} (J : Rd W0 [0] [I] x0) (hm : Vm.zeF x0 = some r) : Q0 28 [I] W0 fun Wf v => ∃ u0, v = .tuple [u0, vB r.2].toArray ∧ OwS (α := List (Sh (List Str))) Wf LL [0] [u0] r.1 := by
 unfold Vm.zeF at hm
 refine zap.of Tryz.func28 rfl rfl rfl rfl (sr (Gv (.slice none 0 0) rfl (Nb rfl (ssr (mv I rfl (Lw.ln x0 J rfl (Lw.gt rfl (nl (cn hm (fun hm => ?_) fun hm => ?_)))))))))
 ·refine sr (Gv (.slice none 0 0) rfl (Nb rfl ?_))
  cases hm
  exact Cw.ret (zis rfl rfl (Res.mk (Le.refl _ _) ⟨.slice none 0 0, rfl, (zlI [0]).sub rfl rfl⟩))
 ·refine sk (sr (Nv (.slice none 0 0) rfl (sr (Nv (.slice none 0 0) rfl (ssr (mv I rfl (Lw.ln x0 J rfl (mi rfl (nl (Cw.block ?_))))))))))
  obtain ⟨a8, a9, hm⟩ := za1 hm
  refine Cw.loop 17 63 [2, 3, 4, 5, 6, 7, 8, 9, 10, 11, 17] (fun m l w => ∃ (K : List (List Str)) (L : Bool) (N : List (List Str)) (U : List Int) (y : Int) (O b z ao ap aq ar au av : Value) (e : CW), e.w = w ∧ Le [3, 4, 5, 7] W0 e ∧ l = [O, vB L, b, z, ao, ap, aq, ar, au, av, vI y] ∧ Ow (α := List (Sh (List Str))) e 2 [0] [O] K ∧ Ow (α := List (Sh (List Str))) e 3 [0] [b] N ∧ Ow e 4 [] [z] U ∧ Vm.zca x0 a8 m K L N U y = some r) _ ⟨([] : List (List Str)), false, ([] : List (List Str)), ([] : List Int), 0, .slice none 0 0, .slice none 0 0, .slice none 0 0, undef, undef, undef, undef, undef, undef, W0, rfl, Le.refl _ _, rfl, ztR 2 [0], ztR 3 [0], owN 4 [], hm⟩ ?_
  rintro (_ | b7) _ _ σ ⟨K, L, N, U, y, O, b, z, ao, ap, aq, ar, au, av, e, rfl, aw, rfl, o4, o8, bb, hm⟩
  ·cases hm
  unfold Vm.zca at hm
  have A := aw.s
  refine sr (Lw.lt rfl (nl (Cw.seq (cn hm (fun hm => ?_) fun hm => ?_))))
  ·refine sk (Cw.seq (Cw.block (sr (mi rfl ?_))))
   obtain ⟨b8, ay, hm⟩ := ob hm
   refine Lw.r rfl (R.ix (α := Packed) (J.ul A) ay rfl rfl rfl) ?_
   obtain ⟨x27, c28, _, r29⟩ := ((J.ul A).at_ ay).cells
   obtain ⟨b9, rfl, r31⟩ := Packed.split r29
   refine Lw.r rfl (R.lda c28 rfl rfl) (al 5 [vI 0, .slice none 0 0] fun bc cb B be => ?_)
   have V := B.o
   refine Gi rfl (sta be (zaa rfl (zaa r31.oc zaw)) fun cc C az => ?_)
   have W := C.s
   refine nl (ssr (fl az rfl (mi rfl (Lw.sub rfl (ca hm (fun _ => p29) fun cd a0 hm f => ?_)))))
   have X := f.o
   have Y := ((o8.up B).up C).up f
   have a1 := ((bb.up B).up C).up f
   have P := az.up f
   refine Lw.r rfl (R.not rfl) (nl (cn hm (fun hm => ?_) fun hm => ?_))
   ·refine sr (Gv (.slice none 0 0) rfl (Nb rfl ?_))
    cases hm
    exact Cw.ret (zis rfl rfl (Res.mk (((A.trans V).trans W).trans X) ⟨.slice none 0 0, rfl, (zlI [0]).sub rfl rfl⟩))
   ·refine sk (sr (Nv (.slice none 0 0) rfl (sr (Ni rfl ?_))))
    obtain ⟨bg, bh, hm⟩ := za1 hm
    refine Cw.join 28 41 [8, 9] (fun l w => ∃ Z d D Q, CW.w Q = w ∧ Le [] a0 Q ∧ l = [D, vI d] ∧ Rd Q [0] [D] Z ∧ bg Z d = some r) ?_ ?_
    ·rintro _ _ σ ⟨Z, d, D, Q, rfl, h, rfl, r53, hm⟩
     rw [bh] at hm
     have a2 := h.o
     refine sr (mv D rfl (fl (P.up h) rfl (cr hm (fun _ => p47 (k0 := 7) r53 (r31.ul (((V.trans W).trans X).trans a2))) ?_)))
     rintro i _ aa hm E ⟨a, rfl, bi⟩
     have bj := ((((A.trans V).trans W).trans X).trans a2).n E
     refine mv (.tuple [a, vB i.2].toArray) rfl (Lw.r rfl (R.ext (vs := [a, vB i.2]) (v := a) rfl rfl) (Lw.r rfl (R.ext (vs := [a, vB i.2]) (v := vB i.2) rfl rfl) (Gv a rfl (Nb rfl (Cw.seq ?_)))))
     obtain ⟨bk, bl, hm⟩ := za1 hm
     refine Cw.join 49 54 [54] (fun l w => ∃ ac ae, CW.w ae = w ∧ Le [] aa ae ∧ l = [vB ac] ∧ bk ac = some r) ?_ ?_
     ·rintro _ _ σ ⟨ac, ae, rfl, k, rfl, hm⟩
      rw [bl] at hm
      have bm := bj.n k
      have af := bi.up k
      refine cn hm (fun hm => ?_) fun hm => ?_
      ·refine sr (Gv (.slice none 0 0) rfl (Nb rfl ?_))
       cases hm
       exact Cw.ret (zis rfl rfl (Res.mk bm ⟨.slice none 0 0, rfl, (zlI [0]).sub rfl rfl⟩))
      ·refine sk (rg (mv b rfl (mv a rfl (Lw.t rfl (T.bs 8 [a] (cs := [a]) (bsc af.oc) rfl (bsv af.oc)) ?_))))
       rintro _ _ ⟨ce, cf, rfl, rfl, F, bn⟩
       obtain ⟨bp, bq, G, br⟩ := zgW _ 7
       rw [← bq]
       have bu : Rd (α := List Str) bp [0] [a] i.1 := by rw [br]; exact ((af.up F).rd.dye 7).sub (M := [0]) rfl
       obtain ⟨bv, bw, hm⟩ := ob hm
       refine Lw.t rfl (T.app1S (α := Sh (List Str)) (K' := [0]) (((((Y.up h).up E).up k).up F).up G) (bn.up G) bu.sh1 rfl rfl bw) ?_
       rintro a3 _ ⟨cg, rfl, ah, bz⟩
       refine mv z rfl (mi rfl (Lw.t rfl (T.bs 9 [vI d] (cs := [vI d]) rfl rfl (bsv rfl)) ?_))
       rintro _ _ ⟨ch, ci, rfl, rfl, S, b0⟩
       obtain ⟨b1, b2, hm⟩ := ob hm
       refine Lw.t rfl (T.app1S (α := Int) (K' := []) (((((((a1.up h).up E).up k).up F).up G).up ah).up S) b0 (rdI _) rfl rfl b2) ?_
       rintro a4 _ ⟨b3, rfl, ai, b4⟩
       exact Gv a3 rfl (Nv a4 rfl (rg (Lw.add rfl (mi rfl (nl ((agm) ⟨K, L, bv, b1, w64 (y + 1), O, a3, a4, vI y, ptr (bx bc), D, vI d, a, vB i.2, b3, rfl, (((((((((((aw.j B).j C).j f).j h).j E).j k).j F).j G).j ah).j S).j ai).w, rfl, (((((((((((o4.up B).up C).up f).up h).up E).up k).up F).up G).up ah).up S).up ai), ((bz.up S).up ai), b4, hm⟩))))))
     ·refine rg (mb rfl (Lw.r rfl (R.not rfl) (mb rfl (bs hm (fun H hm => ?_) fun H hm => ?_))))
      ·exact psk 2 H rfl (Pb H rfl (nl ((ag) ⟨true, aa, rfl, Le.refl _ _, rfl, hm⟩)))
      ·exact wak 2 H (mi rfl (Lw.gt rfl (Pb H rfl (nl ((ag) ⟨decide ((3 : Int) < (d : Int)), aa, rfl, Le.refl _ _, rfl, hm⟩)))))
    ·refine sr (fl P rfl (Lw.ge rfl (nl (cn hm (fun hm => ?_) fun hm => ?_))))
     ·refine Cw.draw [] [(0, 0), (1, 0), (2, 1), (3, 0), (4, 1), (5, 0), (6, 0), (7, 1), (8, 0), (9, 1), (10, 0), (11, 0), (12, 0)] mixed (by kernel_rfl) fun a5 x => ?_
      have aj := a1.up x
      refine Dv b rfl (Dfl (P.up x) rfl rfl rfl ?_)
      obtain ⟨b5, ak, hm⟩ := ob hm
      have a6 : Rd (α := List (List Str)) a5 [3, 0] [b] N := Ow.rdSh (Y.up x)
      refine Mw.p rfl rfl (fun _ => R.ix (α := List Str) a6 ak rfl rfl rfl) ?_
      obtain ⟨a7, c132, r133⟩ := Ow.cellSh1 (α := List Str) (Y.up x) ak
      refine Mw.q rfl rfl (fun _ c => R.ld rfl rfl (zam (a6.at_ ak).1 rfl c132 c)) (Dv z rfl (Dfl (P.up x) rfl rfl rfl ?_))
      obtain ⟨b6, am, hm⟩ := ob hm
      exact Mw.p rfl rfl (fun _ => R.ix (α := Int) aj.rd am rfl rfl rfl) (Mw.q rfl rfl (fun _ c => R.ld rfl rfl (zam (aj.rd.at_ am).1 rfl (aj.rd.at_ am).int c)) (Mw.p rfl rfl (fun _ => R.add rfl rfl) (Hv a7 rfl (Hi rfl (Mw.nil ((ag) ⟨b5, w64 (b6 + 1), a7, a5, rfl, x, rfl, r133, hm⟩))))))
     ·exact sk ((ag) ⟨([] : List Str), 1, .slice none 0 0, a0, rfl, Le.refl _ _, rfl, rdN, hm⟩)
  ·refine Cw.exit ?_
   rw [a9] at hm
   refine sr (mv b rfl (Gv b rfl (Nb rfl ?_)))
   cases hm
   exact Cw.ret (zis rfl rfl (Res.mk A ⟨b, rfl, o8.s.sub rfl rfl⟩))
theorem p28 {x0 b k0 r} (d : Rd W K [b] x0) (hm : Vm.zeF x0 = some r) : Q1 28 [b] W [] fun W' v => ∃ a, v = .tuple [a, vB r.2].toArray ∧ Ow (α := List (Sh (List Str))) W' k0 (0 :: K) [a] r.1 :=
 (c28 (d.view _) hm).ad (fk k0) fun _ _ ⟨a, e, f⟩ => ⟨a, e, f.backS (zhf _) rfl⟩
theorem c9 {x0 e x1 r} (y : Rd W0 [0] [e] x0) (hm : Vm.zd3 x0 x1 = some r) : Q0 9 [e, vI x1] W0 fun Wf v => ∃ z, v = .tuple [z, vB r.2].toArray ∧ Rd Wf [0] [z] r.1 := by
 unfold Vm.zd3 at hm
 refine zap.of Tryz.func9 rfl rfl rfl rfl (sr (Gv (.slice none 0 0) rfl (Nb rfl (sr (mv e rfl (cr hm (fun _ => p28 (k0 := 2) y) ?_))))))
 rintro b _ h hm H ⟨a, rfl, I⟩
 have A : Ow (α := List (Sh (List Str))) h 2 [0] [a] b.1 := I.sub rfl
 have B := H.o
 refine mv (.tuple [a, vB b.2].toArray) rfl (Lw.r rfl (R.ext (vs := [a, vB b.2]) (v := a) rfl rfl) (Lw.r rfl (R.ext (vs := [a, vB b.2]) (v := vB b.2) rfl rfl) (Gv a rfl (Nb rfl (Cw.seq ?_)))))
 obtain ⟨J, L, hm⟩ := za1 hm
 refine Cw.join 13 22 [22] (fun l w => ∃ i f, CW.w f = w ∧ Le [] h f ∧ l = [vB i] ∧ J i = some r) ?_ ?_
 ·rintro _ _ σ ⟨i, f, rfl, k, rfl, hm⟩
  rw [L] at hm
  have C := B.n k
  refine cn hm (fun hm => ?_) fun hm => ?_
  ·refine sr (Gv (.slice none 0 0) rfl (Nb rfl ?_))
   cases hm
   exact Cw.ret (zis rfl rfl (Res.mk C ⟨.slice none 0 0, rfl, (rdN (K := [0]))⟩))
  ·refine sk (sr (mv a rfl (mi rfl ?_)))
   obtain ⟨N, D, hm⟩ := ob hm
   have E : Rd (α := List (List Str)) f [2, 0] [a] b.1 := Ow.rdSh (A.up k)
   refine Lw.r rfl (R.ix (α := List Str) E D rfl rfl rfl) ?_
   obtain ⟨x, c16, r17⟩ := (E.at_ D).cell rfl
   refine Lw.r rfl (R.ld rfl rfl c16) (Gv x rfl (Nb rfl ?_))
   obtain ⟨F, O, P, G⟩ := zgW _ 2
   have Q : Rd F [0] [x] N := by rw [G]; exact (r17.dye 2).sub (M := [0]) rfl
   have W : Rd (α := List (List Str)) F [0] [a] b.1 := by rw [G]; exact ((A.up k).rd.dye 2).sub (M := [0]) rfl
   have S := C.t P
   cases hm
   rw [← O]
   exact Cw.ret (zis rfl rfl (Res.mk S ⟨x, rfl, Q⟩))
 ·refine rg (mb rfl (Lw.r rfl (R.not rfl) (mb rfl (bs hm (fun d hm => ?_) fun d hm => ?_))))
  ·exact psk 6 d rfl (Pb d rfl (nl ((ag) ⟨true, h, rfl, Le.refl _ _, rfl, hm⟩)))
  ·exact wak 6 d (mi rfl (mv e rfl (Lw.ln x0 (y.ul B) rfl (Lw.sub rfl (ca hm (fun _ => p29) fun T U hm V => Lw.r rfl (R.not rfl) (Pb d rfl (nl ((ag) ⟨(!T), U, rfl, V, rfl, hm⟩))))))))
theorem p9 {x0 b x1 r} (d : Rd W K [b] x0) (hm : Vm.zd3 x0 x1 = some r) : Q1 9 [b, vI x1] W [] fun W' v => ∃ a, v = .tuple [a, vB r.2].toArray ∧ Rd W' (0 :: K) [a] r.1 :=
 (c9 (d.view _) hm).ad (fk 0) fun _ _ ⟨a, e, f⟩ => ⟨a, e, f.back rfl⟩
theorem c10 {x0 b x1 e r} (d : Rd W0 [0] [b] x0) (f : Rd W0 [0] [e] x1) (hm : Vm.zcJ x0 x1 = some r) : Q0 10 [b, e] W0 fun Wf v => v = vB r := by
 unfold Vm.zcJ at hm
 refine zap.of Tryz.func10 rfl rfl rfl rfl (sr (Nb rfl (ssr (mv b rfl (Lw.ln x0 d rfl (mv e rfl (Lw.ln x1 f rfl (Lw.ne rfl (nl (cn hm (fun hm => ?_) fun hm => ?_))))))))))
 ·exact sr (Nb rfl (.ret (rt hm (Le.refl _ _))))
 ·refine sk (ssr (Ni rfl (Cw.block ?_)))
  obtain ⟨B, C, hm⟩ := za1 hm
  refine Cw.loop 11 25 [4, 5] (fun m l w => ∃ h i k, CW.w k = w ∧ Le [] W0 k ∧ l = [vB h, vI i] ∧ Vm.zbH x0 x1 B m h i = some r) _ ⟨false, 0, W0, rfl, Le.refl _ _, rfl, hm⟩ ?_
  rintro (_ | E) _ _ σ ⟨h, i, k, rfl, A, rfl, hm⟩
  ·cases hm
  unfold Vm.zbH at hm
  have x := A.o
  refine ssr (mi rfl (mv b rfl (Lw.ln x0 (d.ul x) rfl (Lw.lt rfl (nl (cn hm (fun hm => ?_) fun hm => ?_))))))
  ·refine sk (Cw.seq (Cw.block (Cw.seq (Cw.draw [] [(0, 0), (1, 0), (2, 0), (3, 1), (4, 0), (5, 0), (6, 0), (7, 1), (8, 0)] mixed (by kernel_rfl) fun D l10 => ?_))))
   have a := x.n l10
   refine Dv b rfl (Di rfl ?_)
   obtain ⟨F, y, hm⟩ := ob hm
   refine Mw.p rfl rfl (fun _ => R.ix (α := Str) (d.ul a) y rfl rfl rfl) (Mw.q rfl rfl (fun _ c => R.ld rfl rfl (zam ((d.ul a).at_ y).1 rfl ((d.ul a).at_ y).str c)) (Dv e rfl (Di rfl ?_)))
   obtain ⟨G, z, hm⟩ := ob hm
   refine Mw.p rfl rfl (fun _ => R.ix (α := Str) (f.ul a) z rfl rfl rfl) (Mw.q rfl rfl (fun _ c => R.ld rfl rfl (zam ((f.ul a).at_ z).1 rfl ((f.ul a).at_ z).str c)) (Mw.p rfl rfl (fun _ => R.sne rfl rfl) (Mw.nil (cn hm (fun hm => ?_) fun hm => ?_))))
   ·exact sr (Nb rfl (.ret (rt hm a)))
   ·exact sk (rg (mi rfl (Lw.add rfl (Ni rfl ((agm) ⟨h, w64 (i + 1), D, rfl, (A.j l10).w, rfl, hm⟩)))))
  ·refine Cw.exit ?_
   rw [C] at hm
   exact sr (Nb rfl (.ret (rt hm x)))
theorem p10 {x0 a x1 b r} (d : Rd W K [a] x0) (f : Rd W K [b] x1) (hm : Vm.zcJ x0 x1 = some r) : Q1 10 [a, b] W [] fun W' v => v = vB r :=
 (c10 (d.view _) (f.view _) hm).ad (fk 0) fun _ _ e => e
end Go.Sx
