/- Walks: each function answers as its model, printed by a program of ours. Conditions: the arguments read as they are given. -/
import Derived.Test.YtnjcbcngjmkajaaGreatDoorETs
import Derived.Test.YtnjcbcngjmkajaaGreatDoorEM0
import Derived.Test.YtnjcbcngjmkajaaGreatDoorEW0
import Derived.Test.YtnjcbcngjmkajaaGreatDoorEW1
namespace Go.Sx
open Go Go.Proofs Go.Vm Rp
set_option linter.unusedVariables false
set_option linter.unusedSimpArgs false
variable {W W0 : CW} {K : List Nat}
theorem c122 {x0 y a6 x1 x2 r} (h0 : Rd W0 [0] [y, a6] x0) (hm : Vm.zdA x0 x1 x2 = some r) : Q0 122 [.agg [y, a6].toArray, vS x1, vI x2] W0 fun Wf v => ∃ a8 a9, v = .agg [a8, a9].toArray ∧ Rd Wf [0] [a8] r.Commits ∧ Rd Wf [0] [a9] r.Heads := by
 unfold Vm.zdA at hm
 obtain ⟨ds, dt, ba, ak, I⟩ := Repo.split h0
 simp only [List.cons.injEq, and_true, true_and] at ba
 obtain ⟨rfl, rfl⟩ := ba
 refine zap.of Tryz.func122 rfl rfl rfl rfl (sr (bo 2 rfl fun g1 W1 l1 b1 => ?_))
 have a2 := l1.o
 refine al 3 [.slice none 0 0, .slice none 0 0] fun g3 W3 l3 b3 => ?_
 have a4 := a2.n l3
 refine nl (sr (fl (b1.up l3) rfl (Lw.r rfl (R.bd (zs := [.slice none 0 0, .slice none 0 0]) (cs := [y, .slice none 0 0]) [(0, y)] rfl rfl rfl (zaD ak.oc rfl zcU)) (al 4 [.slice none 0 0, .slice none 0 0] fun J W6 l6 b6 => ?_))))
 have a7 := a4.n l6
 refine sta b6 (zaa ak.oc (zaa rfl zaw)) fun bc l10 cd => ?_
 have be := a7.t l10
 refine nl (sr (Nb rfl (ssr (Ni rfl (Cw.block ?_)))))
 obtain ⟨ce, cf, hm⟩ := za1 hm
 refine Cw.loop 13 57 [8, 9] (fun m l w => ∃ L N b z d A a, CW.w a = w ∧ Le [4, 5] bc a ∧ l = [vB L, vI N] ∧ Rd a [0] [d] b ∧ Ow a 5 [] [A] z ∧ Bx a 4 J [d, A] ∧ Vm.zbX x0 x1 x2 ce m L N b z = some r) _ ⟨false, 0, x0.Commits, ([] : List Head), y, .slice none 0 0, bc, rfl, Le.refl _ _, rfl, (ak.ul be), owN 5 [], cd, hm⟩ ?_
 rintro (_ | dz) _ _ σ ⟨L, N, b, z, d, A, a, rfl, O, rfl, r18, P, Q, hm⟩
 ·cases hm
 unfold Vm.zbX at hm
 have ao := be.t O
 have S := (((b1.up l3).up l6).up l10).up O
 refine ssr ?_
 have ap := I.ul ao
 refine mi rfl (fl S rfl (Lw.ln x0.Heads ap rfl (Lw.lt rfl (nl (cn hm (fun hm => ?_) fun hm => ?_)))))
 ·refine sk ?_
  obtain ⟨cg, ch, hm⟩ := za1 hm
  refine Cw.join 20 57 [8] (fun l w => ∃ U V W X Y e, CW.w e = w ∧ Le [4, 5] a e ∧ l = [vB U] ∧ Rd e [0] [X] V ∧ Ow e 5 [] [Y] W ∧ Bx e 4 J [X, Y] ∧ cg U V W = some r) ?_ ?_
  ·rintro _ _ σ ⟨U, V, W, X, Y, e, rfl, ci, rfl, r35, cj, ck, hm⟩
   rw [ch] at hm
   exact rg (mi rfl (Lw.add rfl (Ni rfl ((agm) ⟨U, w64 (N + 1), V, W, X, Y, e, rfl, (O.j ci).w, rfl, r35, cj, ck, hm⟩))))
  ·refine Cw.block ?_
   obtain ⟨cl, cm, hm⟩ := za1 hm
   refine Cw.join 20 39 [8] (fun l w => ∃ B C Z D aa f, CW.w f = w ∧ Le [4, 5] a f ∧ l = [vB B] ∧ Rd f [0] [D] C ∧ Ow f 5 [] [aa] Z ∧ Bx f 4 J [D, aa] ∧ cl B C Z = some r) ?_ ?_
   ·rintro _ _ σ ⟨B, C, Z, D, aa, f, rfl, E, rfl, r48, bg, aq, hm⟩
    rw [cm] at hm
    have ar := ao.t E
    refine sr (fl (S.up E) rfl (mi rfl ?_))
    obtain ⟨d0, bh, hm⟩ := ob hm
    refine Lw.r rfl (R.ix (α := Head) (I.ul ar) bh rfl rfl rfl) (Lw.fa rfl (Lw.r rfl (R.ld rfl rfl (Head.at0 ((I.ul ar).at_ bh)).str) (ms rfl (Lw.sne rfl (nl (cn hm (fun hm => ?_) fun hm => ?_))))))
    ·refine Cw.draw [5] [(0, 0), (1, 1), (2, 0), (3, 1), (4, 0), (5, 0), (6, 1), (7, 2), (8, 2), (9, 0), (10, 3)] mixed (by kernel_rfl) fun d1 h => ?_
     have bi := h.o
     refine Dfl (aq.up h) rfl rfl rfl (Dfl ((S.up E).up h) rfl rfl rfl (Di rfl ?_))
     obtain ⟨i, au, hm⟩ := ob hm
     have av := I.ul (ar.trans bi)
     refine Mw.p rfl rfl (fun _ => R.ix (α := Head) av au rfl rfl rfl) ?_
     obtain ⟨x71, c72, _, r73⟩ := (av.at_ au).cells
     obtain rfl := Head.split r73
     refine Mw.q rfl rfl (fun _ c => R.lda (zoG (av.at_ au).1 rfl c72 c) rfl rfl) (Mw.t rfl rfl (T.bs 6 [.agg [vS i.Name, vI i.At].toArray] (cs := [vS i.Name, vI i.At]) rfl rfl (bsA rfl)) ?_)
     rintro _ _ ⟨d2, d3, rfl, rfl, F, co⟩
     have cp := bi.n F
     refine m0 F fun cq => ?_
     obtain ⟨ct, cu, hm⟩ := ob hm
     refine Mw.t rfl rfl (T.app1S (α := Head) (K' := []) ((bg.up h).up F) co (Head.rd (K := []) i.Name i.At) rfl rfl cu) ?_
     rintro bj _ ⟨d4, rfl, ac, bk⟩
     have cv := cp.t ac
     refine mc cq ac fun d5 => Df rfl (Mw.lu rfl (T.st (j := 1) (v := bj) (((aq.up h).up F).up ac) rfl rfl bk.oc rfl rfl) ?_)
     rintro _ _ ⟨cw, rfl, aw, cx⟩
     have cy := cv.t aw
     exact Mw.nil ((ag) ⟨B, C, ct, D, bj, cw, rfl, ((((E.j h).j F).j ac).j aw).w, rfl, (r48.ul cy), (bk.up aw), cx, hm⟩)
    ·exact sk ((ag) ⟨B, C, Z, D, aa, f, rfl, E, rfl, r48, bg, aq, hm⟩)
   ·obtain ⟨cz, c0, hm⟩ := za1 hm
    refine Cw.join 20 31 [31] (fun l w => ∃ ax ae, CW.w ae = w ∧ Le [] a ae ∧ l = [vB ax] ∧ cz ax = some r) ?_ ?_
    ·rintro _ _ σ ⟨ax, ae, rfl, k, rfl, hm⟩
     rw [c0] at hm
     have bl := k.o
     have ay := Q.up k
     refine cn hm (fun hm => ?_) fun hm => ?_
     ·refine sr (fl ay rfl (ms rfl (mi rfl (Lw.r rfl (R.bd (zs := [vS ([] : Str), vI 0]) (cs := [vS x1, vI x2]) [(0, vS x1), (1, vI x2)] rfl rfl rfl (zaD rfl rfl (zaD rfl rfl zcU))) (Lw.t rfl (T.bs 7 [.agg [vS x1, vI x2].toArray] (cs := [vS x1, vI x2]) rfl rfl (bsA rfl)) ?_)))))
      rintro _ _ ⟨d6, d7, rfl, rfl, af, c1⟩
      have c2 := bl.n af
      obtain ⟨c3, c4, hm⟩ := ob hm
      refine Lw.t rfl (T.app1S (α := Head) (K' := []) ((P.up k).up af) c1 (Head.rd (K := []) x1 x2) rfl rfl c4) ?_
      rintro bm _ ⟨d8, rfl, az, bn⟩
      have c5 := c2.t az
      refine Lw.fa rfl (Lw.u (T.st (j := 1) (v := bm) ((ay.up af).up az) rfl rfl bn.oc rfl rfl) ?_)
      rintro _ _ ⟨c6, rfl, a0, c7⟩
      have c8 := c5.t a0
      exact nl (rg (Nb rfl ((ag) ⟨true, b, c3, d, bm, c6, rfl, (((k.j af).j az).j a0).w, rfl, (r18.ul c8), (bn.up a0), c7, hm⟩)))
     ·exact sk ((ag) ⟨L, b, z, d, A, ae, rfl, k.w, rfl, (r18.ul bl), (P.up k), ay, hm⟩)
    ·refine rg (mb rfl (Lw.r rfl (R.not rfl) (mb rfl (bs hm (fun G hm => ?_) fun G hm => ?_))))
     ·refine wak 8 G (fl S rfl (mi rfl ?_))
      obtain ⟨c9, bp, hm⟩ := ob hm
      exact Lw.r rfl (R.ix (α := Head) ap bp rfl rfl rfl) (Lw.fa rfl (Lw.r rfl (R.ld rfl rfl (Head.at0 (ap.at_ bp)).str) (ms rfl (Lw.r rfl (R.sge rfl rfl) (Pb G rfl (nl ((ag) ⟨(!Op.bytesLess c9.Name x1), a, rfl, Le.refl _ _, rfl, hm⟩)))))))
     ·exact psk 8 G rfl (Pb G rfl (nl ((ag) ⟨false, a, rfl, Le.refl _ _, rfl, hm⟩)))
 ·refine Cw.exit ?_
  rw [cf] at hm
  obtain ⟨da, db, hm⟩ := za1 hm
  refine Cw.join 58 67 [] (fun l w => ∃ a1 ah ai H x, CW.w x = w ∧ Le [4, 5] a x ∧ l = [] ∧ Rd x [0] [ai] a1 ∧ Ow x 5 [] [H] ah ∧ Bx x 4 J [ai, H] ∧ da a1 ah = some r) ?_ ?_
  ·rintro _ _ σ ⟨a1, ah, ai, H, x, rfl, bq, rfl, r131, br, dc, hm⟩
   rw [db] at hm
   have dd := ao.t bq
   refine sr (la dc (sta ((((b3.up l6).up l10).up O).up bq) (zaa r131.oc (zaa br.oc zaw)) fun d9 bu de => ?_))
   have bv := bu.s
   refine nl ?_
   obtain ⟨df, dg, bw, dh⟩ := zgW _ 5
   have di : Rd (α := List Vm.Head) df [0] [H] ah := by rw [dh]; exact ((br.up bu).rd.dye 5).sub (M := [0]) rfl
   have bz := bw.s
   cases hm
   rw [← dg]
   exact Cw.ret (zke rfl (de.up bw) (Res.mk ((dd.trans bv).trans bz) ⟨ai, H, rfl, (r131.ul (bv.trans bz)), di⟩))
  ·refine sr (mb rfl (Lw.r rfl (R.not rfl) (nl (cn hm (fun hm => ?_) fun hm => ?_))))
   ·refine rg (fl Q rfl (ms rfl (mi rfl (Lw.r rfl (R.bd (zs := [vS ([] : Str), vI 0]) (cs := [vS x1, vI x2]) [(0, vS x1), (1, vI x2)] rfl rfl rfl (zaD rfl rfl (zaD rfl rfl zcU))) (Lw.t rfl (T.bs 8 [.agg [vS x1, vI x2].toArray] (cs := [vS x1, vI x2]) rfl rfl (bsA rfl)) ?_)))))
    rintro _ _ ⟨ea, eb, rfl, rfl, aj, dj⟩
    have dk := aj.o
    obtain ⟨dl, dm, hm⟩ := ob hm
    refine Lw.t rfl (T.app1S (α := Head) (K' := []) (P.up aj) dj (Head.rd (K := []) x1 x2) rfl rfl dm) ?_
    rintro b0 _ ⟨ec, rfl, a3, b2⟩
    have dn := dk.t a3
    refine Lw.fa rfl (Lw.u (T.st (j := 1) (v := b0) ((Q.up aj).up a3) rfl rfl b2.oc rfl rfl) ?_)
    rintro _ _ ⟨dp, rfl, a5, dq⟩
    have dr := dn.t a5
    exact nl ((ag) ⟨b, dl, d, b0, dp, rfl, ((aj.j a3).j a5).w, rfl, (r18.ul dr), (b2.up a5), dq, hm⟩)
   ·exact sk ((ag) ⟨b, z, d, A, a, rfl, Le.refl _ _, rfl, r18, P, Q, hm⟩)
theorem p122 {x0 d f x1 x2 r} (h : Rd W K [d, f] x0) (hm : Vm.zdA x0 x1 x2 = some r) : Q1 122 [.agg [d, f].toArray, vS x1, vI x2] W [] fun W' v => ∃ a b, v = .agg [a, b].toArray ∧ Rd W' (0 :: K) [a] r.Commits ∧ Rd W' (0 :: K) [b] r.Heads :=
 (c122 (h.view _) hm).ad (fk 0) fun _ _ ⟨a, b, e, i, k⟩ => ⟨a, b, e, i.back rfl, k.back rfl⟩
theorem c131 {x0 y a x1 x2 d e r} (h0 : Rd W0 [0] [y, a] x0) (h2 : Rd W0 [0] [d, vS x2.Who, e] x2) (hm : Vm.zcM x0 x1 x2 = some r) : Q0 131 [.agg [y, a].toArray, vS x1, .agg [d, vS x2.Who, e].toArray] W0 fun Wf v => ∃ af ah, v = .agg [af, ah].toArray ∧ Rd Wf [0] [af] r.Commits ∧ Rd Wf [0] [ah] r.Heads := by
 unfold Vm.zcM at hm
 obtain ⟨dr, ds, ai, aj, F⟩ := Repo.split h0
 simp only [List.cons.injEq, and_true, true_and] at ai
 obtain ⟨rfl, rfl⟩ := ai
 obtain ⟨dt, du, ak, bc, be⟩ := Commit.split h2
 simp only [List.cons.injEq, and_true, true_and] at ak
 obtain ⟨rfl, rfl⟩ := ak
 refine zap.of Tryz.func131 rfl rfl rfl rfl (sr (bo 2 rfl fun f W1 l1 b1 => ?_))
 have a2 := l1.o
 refine bo 3 rfl fun g3 W3 l3 b3 => ?_
 have a4 := a2.n l3
 refine al 4 [.slice none 0 0, .slice none 0 0] fun g6 W6 G b6 => ?_
 have a7 := a4.n G
 refine nl (Cw.seq ?_)
 obtain ⟨B, bn, hm⟩ := ob hm
 obtain ⟨i, bp, hm⟩ := ob hm
 refine Cw.par [[], [], [1], [0, 1, 2], [], [4], [0, 1, 2, 3, 4, 5], [], [7], [0, 1, 2, 3, 4, 5, 6, 7, 8], [], [0, 1, 2, 3, 4, 5, 6, 7, 8, 9, 10]] [[], [], [1], [0, 2], [], [4], [3, 5], [], [7], [6, 8], [], [6, 9, 10]] [[], [], [], [5], [], [], [5], [], [], [], [], [7]] [[0], [1], [2], [3], [4], [5], [6], [7], [8], [6, 9], [10], [6, 10]] [[5], [], [], [0, 5], [], [6], [0, 5], [], [], [], [7], [7]] [1, 2, 4, 5, 6, 7, 8, 9, 11] [5, 7] [fun vs W => Ow W 5 [] [(vs 0)] ([] : List Commit), fun vs W => (vs 1) = ptr ((bx f).add 0), fun vs W => (vs 2) = y, fun vs W => Ow (α := List (Sh Vm.Commit)) W 5 [0] [(vs 3)] B, fun vs W => (vs 4) = .agg [d, vS x2.Who, e].toArray, fun vs W => (vs 5) = .slice (some (bx (pg (vs 5)))) 1 1 ∧ Bx W 6 (pg (vs 5)) [d, vS x2.Who, e], fun vs W => Ow (α := List (Sh Vm.Commit)) W 5 [0] [(vs 6)] i, fun vs W => (vs 7) = ptr ((bx f).add 1), fun vs W => (vs 8) = a, fun vs W => (vs 9) = .agg [(vs 6), a].toArray, fun vs W => (vs 10) = ptr (bx (pg (vs 10))) ∧ Bx W 7 (pg (vs 10)) [.slice none 0 0, .slice none 0 0], fun vs W => (vs 10) = ptr (bx (pg (vs 10))) ∧ Bx W 7 (pg (vs 10)) [(vs 6), a]] [] mixed (by kernel_rfl) rfl zoO.nil ?_
 intro d0 C
 have H := a7.n C
 have I := ((b1.up l3).up G).up C
 refine ⟨(zdc.cons ?_ (zdc.cons ?_ (zdc.cons ?_ (zdc.cons ?_ (zdc.cons ?_ (zdc.cons ?_ (zdc.cons ?_ (zdc.cons ?_ (zdc.cons ?_ (zdc.cons ?_ (zdc.cons ?_ (zdc.cons ?_ zdc.nil)))))))))))), (zge.cons (fun vs vs' W W' _ hv l hd h => by (show Ow W' 5 [] [(vs' 0)] ([] : List Commit)); rw [hv 0 (zbM rfl)]; exact h.upv l (zfH hd (c := 5) rfl)) (zge.cons (fun vs vs' W W' _ hv l hd h => by (show (vs' 1) = ptr ((bx f).add 0)); rw [hv 1 (zbM rfl)]; exact h) (zge.cons (fun vs vs' W W' _ hv l hd h => by (show (vs' 2) = y); rw [hv 2 (zbM rfl)]; exact h) (zge.cons (fun vs vs' W W' _ hv l hd h => by (show Ow (α := List (Sh Vm.Commit)) W' 5 [0] [(vs' 3)] B); rw [hv 3 (zbM rfl)]; exact h.up l (zhs hd (K := [5, 0]) rfl)) (zge.cons (fun vs vs' W W' _ hv l hd h => by (show (vs' 4) = .agg [d, vS x2.Who, e].toArray); rw [hv 4 (zbM rfl)]; exact h) (zge.cons (fun vs vs' W W' _ hv l hd h => by (show (vs' 5) = .slice (some (bx (pg (vs' 5)))) 1 1 ∧ Bx W' 6 (pg (vs' 5)) [d, vS x2.Who, e]); rw [hv 5 (zbM rfl)]; exact ⟨h.1, h.2.up l (zfH hd (c := 6) rfl)⟩) (zge.cons (fun vs vs' W W' _ hv l hd h => by (show Ow (α := List (Sh Vm.Commit)) W' 5 [0] [(vs' 6)] i); rw [hv 6 (zbM rfl)]; exact h.up l (zhs hd (K := [5, 0]) rfl)) (zge.cons (fun vs vs' W W' _ hv l hd h => by (show (vs' 7) = ptr ((bx f).add 1)); rw [hv 7 (zbM rfl)]; exact h) (zge.cons (fun vs vs' W W' _ hv l hd h => by (show (vs' 8) = a); rw [hv 8 (zbM rfl)]; exact h) (zge.cons (fun vs vs' W W' _ hv l hd h => by (show (vs' 9) = .agg [(vs' 6), a].toArray); rw [hv 6 (zbM rfl), hv 9 (zbM rfl)]; exact h) (zge.cons (fun vs vs' W W' _ hv l hd h => by (show (vs' 10) = ptr (bx (pg (vs' 10))) ∧ Bx W' 7 (pg (vs' 10)) [.slice none 0 0, .slice none 0 0]); rw [hv 10 (zbM rfl)]; exact ⟨h.1, h.2.up l (zfH hd (c := 7) rfl)⟩) (zge.cons (fun vs vs' W W' _ hv l hd h => by (show (vs' 10) = ptr (bx (pg (vs' 10))) ∧ Bx W' 7 (pg (vs' 10)) [(vs' 6), a]); rw [hv 6 (zbM rfl), hv 10 (zbM rfl)]; exact ⟨h.1, h.2.up l (zfH hd (c := 7) rfl)⟩) zge.nil)))))))))))), ?_⟩
 ·intro vs W lW hN hV
  obtain ⟨d1, bq⟩ : ∃ X, X = W := ⟨W, rfl⟩
  subst bq
  refine Tr.mono (T.lit0 (α := Commit) 5 []) ?_
  rintro br _ ⟨an, rfl, bu, bv⟩
  exact ⟨an, rfl, bu, (show Ow an 5 [] [br] ([] : List Commit) from bv)⟩
 ·intro vs W lW hN hV
  obtain ⟨bw, bz⟩ : ∃ X, X = W := ⟨W, rfl⟩
  subst bz
  refine Tr.mono (Run.tr (R.fa rfl)) ?_
  rintro _ _ ⟨hu, rfl⟩
  obtain rfl := hu.symm
  exact ⟨bw, rfl, Le.refl _ _, (show (ptr ((bx f).add 0) : Value) = ptr ((bx f).add 0) from rfl)⟩
 ·intro vs W lW hN hV
  obtain ⟨b0, b2⟩ : ∃ X, X = W := ⟨W, rfl⟩
  subst b2
  have J : vs 1 = ptr ((bx f).add 0) := (hN 1 (zbM rfl))
  obtain ⟨vs, rfl⟩ := zch J
  refine Tr.mono (Run.tr (R.ld (v := y) rfl rfl ((I.up lW rfl).cell rfl))) ?_
  rintro _ _ ⟨hu, rfl⟩
  obtain rfl := hu.symm
  exact ⟨b0, rfl, Le.refl _ _, (show (y : Value) = y from rfl)⟩
 ·intro vs W lW hN hV
  obtain ⟨b4, b5⟩ : ∃ X, X = W := ⟨W, rfl⟩
  subst b5
  have b7 := H.t lW rfl
  obtain ⟨b8, b9⟩ : ∃ v, vs 0 = v := ⟨_, rfl⟩
  obtain ⟨vs, rfl⟩ := zch b9
  have cb : Ow b4 5 [] [b8] ([] : List Commit) := (hN 0 (zbM rfl))
  have L : vs 2 = y := (hN 2 (zbM rfl))
  obtain ⟨vs, rfl⟩ := zch L
  obtain ⟨d2, cc, ao, cd⟩ := cb.toSh
  rw [← cc]
  have ce := b7.t ao
  refine Tr.mono (T.appS (α := Sh Vm.Commit) (K' := [0]) cd (aj.ul ce).shL rfl rfl bn) ?_
  rintro cf _ ⟨ap, rfl, cg, ch⟩
  exact ⟨ap, rfl, ((ao.sub (M := [5]) rfl).trans (cg.sub (M := [5]) rfl)), (show Ow (α := List (Sh Vm.Commit)) ap 5 [0] [cf] B from ch)⟩
 ·intro vs W lW hN hV
  obtain ⟨ci, cj⟩ : ∃ X, X = W := ⟨W, rfl⟩
  subst cj
  refine Tr.mono (Run.tr (R.lda (cs := [d, vS x2.Who, e]) (((b3.up G).up C).up lW rfl).cells rfl rfl)) ?_
  rintro _ _ ⟨hu, rfl⟩
  obtain rfl := hu.symm
  exact ⟨ci, rfl, Le.refl _ _, (show (.agg [d, vS x2.Who, e].toArray : Value) = .agg [d, vS x2.Who, e].toArray from rfl)⟩
 ·intro vs W lW hN hV
  obtain ⟨d3, ck⟩ : ∃ X, X = W := ⟨W, rfl⟩
  subst ck
  have N : vs 4 = .agg [d, vS x2.Who, e].toArray := (hN 4 (zbM rfl))
  obtain ⟨vs, rfl⟩ := zch N
  refine Tr.mono (T.bs 6 [.agg [d, vS x2.Who, e].toArray] (cs := [d, vS x2.Who, e]) rfl rfl (bsA rfl)) ?_
  rintro _ _ ⟨O, aq, rfl, rfl, cl, cm⟩
  exact ⟨aq, rfl, cl, (show (.slice (some (bx O)) 1 1 : Value) = .slice (some (bx O)) 1 1 ∧ Bx aq 6 O [d, vS x2.Who, e] from ⟨rfl, cm⟩)⟩
 ·intro vs W lW hN hV
  obtain ⟨ar, co⟩ : ∃ X, X = W := ⟨W, rfl⟩
  subst co
  have au := H.t lW rfl
  obtain ⟨cp, cq⟩ : ∃ v, vs 3 = v := ⟨_, rfl⟩
  obtain ⟨vs, rfl⟩ := zch cq
  have ct : Ow (α := List (Sh Vm.Commit)) ar 5 [0] [cp] B := (hN 3 (zbM rfl))
  obtain ⟨z, P⟩ : ∃ z, vs 5 = .slice (some (bx z)) 1 1 := ⟨_, ((hN 5 (zbM rfl))).1⟩
  obtain ⟨vs, rfl⟩ := zch P
  have cu : Bx ar 6 z [d, vS x2.Who, e] := (hN 5 (zbM rfl)).2
  refine Tr.mono (T.app1S (α := Sh Vm.Commit) (K' := [0]) ct cu (Commit.rd (K := [0]) x2.Parents x2.Who x2.Tree (bc.ul au) (be.ul au)).sh1 rfl rfl bp) ?_
  rintro cv _ ⟨av, rfl, cw, cx⟩
  exact ⟨av, rfl, cw, (show Ow (α := List (Sh Vm.Commit)) av 5 [0] [cv] i from cx)⟩
 ·intro vs W lW hN hV
  obtain ⟨cy, cz⟩ : ∃ X, X = W := ⟨W, rfl⟩
  subst cz
  refine Tr.mono (Run.tr (R.fa rfl)) ?_
  rintro _ _ ⟨hu, rfl⟩
  obtain rfl := hu.symm
  exact ⟨cy, rfl, Le.refl _ _, (show (ptr ((bx f).add 1) : Value) = ptr ((bx f).add 1) from rfl)⟩
 ·intro vs W lW hN hV
  obtain ⟨c0, c1⟩ : ∃ X, X = W := ⟨W, rfl⟩
  subst c1
  have Q : vs 7 = ptr ((bx f).add 1) := (hN 7 (zbM rfl))
  obtain ⟨vs, rfl⟩ := zch Q
  refine Tr.mono (Run.tr (R.ld (v := a) rfl rfl ((I.up lW rfl).cell rfl))) ?_
  rintro _ _ ⟨hu, rfl⟩
  obtain rfl := hu.symm
  exact ⟨c0, rfl, Le.refl _ _, (show (a : Value) = a from rfl)⟩
 ·intro vs W lW hN hV
  obtain ⟨aw, c2⟩ : ∃ X, X = W := ⟨W, rfl⟩
  subst c2
  obtain ⟨b, A⟩ : ∃ v, vs 6 = v := ⟨_, rfl⟩
  obtain ⟨vs, rfl⟩ := zch A
  have c3 : Ow (α := List (Sh Vm.Commit)) aw 5 [0] [b] i := (hN 6 (zbM rfl))
  have S : vs 8 = a := (hN 8 (zbM rfl))
  obtain ⟨vs, rfl⟩ := zch S
  refine Tr.mono (Run.tr (R.bd (zs := [.slice none 0 0, .slice none 0 0]) (cs := [b, a]) [(0, b), (1, a)] rfl rfl rfl (zaD c3.oc rfl (zaD F.oc rfl zcU)))) ?_
  rintro _ _ ⟨hu, rfl⟩
  obtain rfl := hu.symm
  exact ⟨aw, rfl, Le.refl _ _, (show (.agg [b, a].toArray : Value) = .agg [b, a].toArray from rfl)⟩
 ·intro vs W lW hN hV
  obtain ⟨d4, c4⟩ : ∃ X, X = W := ⟨W, rfl⟩
  subst c4
  refine Tr.mono (T.alloc 7 (cs := [.slice none 0 0, .slice none 0 0]) rfl) ?_
  rintro _ _ ⟨U, ax, rfl, rfl, c5, c6⟩
  exact ⟨ax, rfl, c5, (show (ptr (bx U) : Value) = ptr (bx U) ∧ Bx ax 7 U [.slice none 0 0, .slice none 0 0] from ⟨rfl, c6⟩)⟩
 ·intro vs W lW hN hV
  obtain ⟨ay, c7⟩ : ∃ X, X = W := ⟨W, rfl⟩
  subst c7
  obtain ⟨b, A⟩ : ∃ v, vs 6 = v := ⟨_, rfl⟩
  obtain ⟨vs, rfl⟩ := zch A
  have c8 : Ow (α := List (Sh Vm.Commit)) ay 5 [0] [b] i := (hN 6 (zbM rfl))
  have V : vs 9 = .agg [b, a].toArray := (hN 9 (zbM rfl))
  obtain ⟨vs, rfl⟩ := zch V
  obtain ⟨k, Y⟩ : ∃ k, vs 10 = ptr (bx k) := ⟨_, ((hN 10 (zbM rfl))).1⟩
  obtain ⟨vs, rfl⟩ := zch Y
  have c9 : Bx ay 7 k [.slice none 0 0, .slice none 0 0] := (hN 10 (zbM rfl)).2
  refine Tr.mono (T.sta (vs := [b, a]) c9 rfl rfl (zaa c8.oc (zaa F.oc zaw)) rfl rfl) ?_
  rintro _ _ ⟨az, rfl, da, db⟩
  exact ⟨az, rfl, da, (show (ptr (bx k)) = ptr (bx k) ∧ Bx az 7 k [b, a] from ⟨rfl, db⟩)⟩
 ·intro vs W lW hN
  obtain ⟨D, dc⟩ : ∃ X, X = W := ⟨W, rfl⟩
  subst dc
  have Z := H.t lW rfl
  obtain ⟨d5, hl174⟩ : ∃ x, x = lW := ⟨lW, rfl⟩
  have J : vs 1 = ptr ((bx f).add 0) := (hN 1 (zbM rfl))
  obtain ⟨vs, rfl⟩ := zch J
  have L : vs 2 = y := (hN 2 (zbM rfl))
  obtain ⟨vs, rfl⟩ := zch L
  have N : vs 4 = .agg [d, vS x2.Who, e].toArray := (hN 4 (zbM rfl))
  obtain ⟨vs, rfl⟩ := zch N
  obtain ⟨z, P⟩ : ∃ z, vs 5 = .slice (some (bx z)) 1 1 := ⟨_, ((hN 5 (zbM rfl))).1⟩
  obtain ⟨vs, rfl⟩ := zch P
  have d6 : Bx D 6 z [d, vS x2.Who, e] := (hN 5 (zbM rfl)).2
  obtain ⟨b, A⟩ : ∃ v, vs 6 = v := ⟨_, rfl⟩
  obtain ⟨vs, rfl⟩ := zch A
  have a0 : Ow (α := List (Sh Vm.Commit)) D 5 [0] [b] i := (hN 6 (zbM rfl))
  have Q : vs 7 = ptr ((bx f).add 1) := (hN 7 (zbM rfl))
  obtain ⟨vs, rfl⟩ := zch Q
  have S : vs 8 = a := (hN 8 (zbM rfl))
  obtain ⟨vs, rfl⟩ := zch S
  have V : vs 9 = .agg [b, a].toArray := (hN 9 (zbM rfl))
  obtain ⟨vs, rfl⟩ := zch V
  obtain ⟨k, Y⟩ : ∃ k, vs 10 = ptr (bx k) := ⟨_, (hN 11 (zbM rfl)).1⟩
  obtain ⟨vs, rfl⟩ := zch Y
  have dd : Bx D 7 k [b, a] := (hN 11 (zbM rfl)).2
  refine sr (Lw.r rfl (R.lda (cs := [b, a]) dd.cells rfl rfl) (ms rfl (fl (I.up lW rfl) rfl (Lw.ln x0.Commits (aj.ul Z) rfl ?_))))
  have de : Rd (α := List Vm.Commit) D [5, 0] [b] i := Ow.rdSh a0
  refine cr hm (fun _ => p122 (K := [0, 5]) (x0 := (Vm.Repo.mk i x0.Heads)) (Repo.rd (K := [0, 5]) i x0.Heads (de.sub (M := [0, 5]) rfl) ((F.ul Z).sub (M := [0, 5]) rfl))) ?_
  rintro a1 _ d7 hm aa ⟨a3, a5, rfl, df, dg⟩
  have a6 := df.sub (M := [0, 5]) rfl
  have a8 := dg.sub (M := [0, 5]) rfl
  have dh := Z.n aa
  refine sta (((b6.up C).up lW rfl).up aa) (zaa a6.oc (zaa a8.oc zaw)) fun d8 E di => ?_
  have dj := dh.t E
  refine nl ?_
  have dk := a6.up (E.sub (M := [4]) rfl) rfl
  have dl := a8.up (E.sub (M := [4]) rfl) rfl
  obtain ⟨ac, dm, a9, ae⟩ := zgW _ 5
  have dn : Rd ac [0] [a3] a1.Commits := by rw [ae]; exact (dk.dye 5).sub (M := [0]) rfl
  have dp : Rd ac [0] [a5] a1.Heads := by rw [ae]; exact (dl.dye 5).sub (M := [0]) rfl
  have d9 : Rd (α := List Vm.Commit) ac [0] [b] i := by rw [ae]; exact (((a0.up aa).up E).rd.dye 5).sub (M := [0]) rfl
  have dq := dj.t a9
  cases hm
  rw [← dm]
  exact Cw.ret (zke rfl (di.up a9) (Res.mk dq ⟨a3, a5, rfl, dn, dp⟩))
theorem p131 {x0 d f x1 x2 h i r} (k : Rd W K [d, f] x0) (x : Rd W K [h, vS x2.Who, i] x2) (hm : Vm.zcM x0 x1 x2 = some r) : Q1 131 [.agg [d, f].toArray, vS x1, .agg [h, vS x2.Who, i].toArray] W [] fun W' v => ∃ a b, v = .agg [a, b].toArray ∧ Rd W' (0 :: K) [a] r.Commits ∧ Rd W' (0 :: K) [b] r.Heads :=
 (c131 (k.view _) (x.view _) hm).ad (fk 0) fun _ _ ⟨a, b, e, y, z⟩ => ⟨a, b, e, y.back rfl, z.back rfl⟩
theorem c120 {x0 A B x1 x2 x3 aa r} (h0 : Rd W0 [0] [A, B] x0) (h3 : Rd W0 [0] [aa] x3) (hm : Vm.zcH x0 x1 x2 x3 = some r) : Q0 120 [.agg [A, B].toArray, vS x1, vS x2, aa] W0 fun Wf v => ∃ bp bq, v = .tuple [.agg [bp, bq].toArray, vB r.2].toArray ∧ Rd Wf [0] [bp] r.1.Commits ∧ Rd Wf [0] [bq] r.1.Heads := by
 unfold Vm.zcH at hm
 obtain ⟨fc, fd, br, L, N⟩ := Repo.split h0
 simp only [List.cons.injEq, and_true, true_and] at br
 obtain ⟨rfl, rfl⟩ := br
 refine zap.of Tryz.func120 rfl rfl rfl rfl (sr (bo 2 rfl fun g1 W1 l1 b1 => ?_))
 have a2 := l1.o
 refine al 3 [.slice none 0 0, .slice none 0 0] fun g3 W3 l3 b3 => ?_
 have a4 := a2.n l3
 refine Nb rfl (ssr (la (b1.up l3) (ca hm (fun _ => p23 (Repo.rd (K := [0]) x0.Commits x0.Heads (L.ul a4) (N.ul a4))) fun z8 fj hm l10 => ?_)))
 have af := a4.n l10
 refine Lw.r rfl (R.not rfl) (nl (cn hm (fun hm => ?_) fun hm => ?_))
 ·refine sr (Lw.r rfl (R.bd (zs := [.slice none 0 0, .slice none 0 0]) (cs := [.slice none 0 0, .slice none 0 0]) [] rfl rfl rfl zcU) (sta (b3.up l10) (zaa rfl (zaa rfl zaw)) fun fm cx cy => ?_))
  have cz := af.t cx
  refine Nb rfl ?_
  cases hm
  exact Cw.ret (zeM rfl cy rfl (Res.mk cz ⟨.slice none 0 0, .slice none 0 0, rfl, (rdN (K := [0])), (rdN (K := [0]))⟩))
 ·refine sk (sr (ms rfl (mv aa rfl (cr hm (fun _ => p97 (k0 := 4) (h3.ul af)) ?_))))
  rintro bw S fn hm ah ⟨_, rfl, ai⟩
  have c0 := af.n ah
  refine Lw.r rfl (R.bd (zs := [.slice none 0 0, vS ([] : Str), .slice none 0 0]) (cs := [.slice none 0 0, vS x2, S]) [(1, vS x2), (2, S)] rfl rfl rfl (zaD rfl rfl (zaD ai.oc rfl zcU))) (al 5 [.slice none 0 0, vS ([] : Str), .slice none 0 0] fun c1 fo O c2 => ?_)
  have c3 := c0.n O
  refine sta c2 (zaa rfl (zaa rfl (zaa (ai.up O).oc zaw))) fun c4 U bz => ?_
  have V := c3.t U
  have aj := ((((b1.up l3).up l10).up ah).up O).up U
  refine nl ?_
  obtain ⟨c5, c6, hm⟩ := za1 hm
  refine Cw.join 20 28 [] (fun l w => ∃ H f I i k J, CW.w J = w ∧ Le [5, 12] c4 J ∧ l = [] ∧ Ow J 6 [] [i] H ∧ Ow J 4 [] [k] I ∧ Bx J 5 c1 [i, vS f, k] ∧ c5 H f I = some r) ?_ ?_
  ·rintro _ _ σ ⟨H, f, I, i, k, J, rfl, ak, rfl, b0, b2, c7, hm⟩
   rw [c6] at hm
   have c8 := V.t ak
   refine Cw.seq ?_
   obtain ⟨b, c9, hm⟩ := ob hm
   obtain ⟨a, da, hm⟩ := ob hm
   refine Cw.par [[], [0], [], [], [0, 1, 2, 3], [], [0, 1, 2, 3, 4, 5]] [[], [0], [], [], [1, 2, 3], [], [4, 5]] [[], [], [], [], [], [], [9]] [[0], [1], [2], [3], [4], [5], [4, 5]] [[], [7, 8], [], [], [0, 4, 6, 7, 8], [9], [9]] [0, 1, 2, 3, 4, 6] [9] [fun vs W => (vs 0) = .agg [A, B].toArray, fun vs W => (vs 1) = .agg [(zaJ (vs 1) 0), (zaJ (vs 1) 1)].toArray ∧ Ow W 7 [] [(zaJ (vs 1) 0)] b.Commits ∧ Ow W 8 [] [(zaJ (vs 1) 1)] b.Heads, fun vs W => (vs 2) = vS x1, fun vs W => (vs 3) = .agg [i, vS f, k].toArray, fun vs W => (vs 4) = .agg [(zaJ (vs 4) 0), (zaJ (vs 4) 1)].toArray ∧ Rd W [0, 4, 6, 7, 8] [(zaJ (vs 4) 0)] a.Commits ∧ Rd W [0, 4, 6, 7, 8] [(zaJ (vs 4) 1)] a.Heads, fun vs W => (vs 5) = ptr (bx (pg (vs 5))) ∧ Bx W 9 (pg (vs 5)) [.slice none 0 0, .slice none 0 0], fun vs W => (vs 5) = ptr (bx (pg (vs 5))) ∧ Bx W 9 (pg (vs 5)) [(zaJ (vs 4) 0), (zaJ (vs 4) 1)]] [] mixed (by kernel_rfl) rfl zoO.nil ?_
   intro fp C
   have b4 := c8.n C
   have b5 := (aj.up ak).up C
   refine ⟨(zdc.cons ?_ (zdc.cons ?_ (zdc.cons ?_ (zdc.cons ?_ (zdc.cons ?_ (zdc.cons ?_ (zdc.cons ?_ zdc.nil))))))), (zge.cons (fun vs vs' W W' _ hv l hd h => by (show (vs' 0) = .agg [A, B].toArray); rw [hv 0 (zbM rfl)]; exact h) (zge.cons (fun vs vs' W W' _ hv l hd h => by (show (vs' 1) = .agg [(zaJ (vs' 1) 0), (zaJ (vs' 1) 1)].toArray ∧ Ow W' 7 [] [(zaJ (vs' 1) 0)] b.Commits ∧ Ow W' 8 [] [(zaJ (vs' 1) 1)] b.Heads); rw [hv 1 (zbM rfl)]; exact ⟨h.1, h.2.1.upv l (zfH hd (c := 7) rfl), h.2.2.upv l (zfH hd (c := 8) rfl)⟩) (zge.cons (fun vs vs' W W' _ hv l hd h => by (show (vs' 2) = vS x1); rw [hv 2 (zbM rfl)]; exact h) (zge.cons (fun vs vs' W W' _ hv l hd h => by (show (vs' 3) = .agg [i, vS f, k].toArray); rw [hv 3 (zbM rfl)]; exact h) (zge.cons (fun vs vs' W W' _ hv l hd h => by (show (vs' 4) = .agg [(zaJ (vs' 4) 0), (zaJ (vs' 4) 1)].toArray ∧ Rd W' [0, 4, 6, 7, 8] [(zaJ (vs' 4) 0)] a.Commits ∧ Rd W' [0, 4, 6, 7, 8] [(zaJ (vs' 4) 1)] a.Heads); rw [hv 4 (zbM rfl)]; exact ⟨h.1, h.2.1.up l (zhs hd (K := [0, 4, 6, 7, 8]) rfl), h.2.2.up l (zhs hd (K := [0, 4, 6, 7, 8]) rfl)⟩) (zge.cons (fun vs vs' W W' _ hv l hd h => by (show (vs' 5) = ptr (bx (pg (vs' 5))) ∧ Bx W' 9 (pg (vs' 5)) [.slice none 0 0, .slice none 0 0]); rw [hv 5 (zbM rfl)]; exact ⟨h.1, h.2.up l (zfH hd (c := 9) rfl)⟩) (zge.cons (fun vs vs' W W' _ hv l hd h => by (show (vs' 5) = ptr (bx (pg (vs' 5))) ∧ Bx W' 9 (pg (vs' 5)) [(zaJ (vs' 4) 0), (zaJ (vs' 4) 1)]); rw [hv 4 (zbM rfl), hv 5 (zbM rfl)]; exact ⟨h.1, h.2.up l (zfH hd (c := 9) rfl)⟩) zge.nil))))))), ?_⟩
   ·intro vs W lW hN hV
    obtain ⟨db, dc⟩ : ∃ X, X = W := ⟨W, rfl⟩
    subst dc
    refine Tr.mono (Run.tr (R.lda (cs := [A, B]) (b5.up lW rfl).cells rfl rfl)) ?_
    rintro _ _ ⟨hu, rfl⟩
    obtain rfl := hu.symm
    exact ⟨db, rfl, Le.refl _ _, (show (.agg [A, B].toArray : Value) = .agg [A, B].toArray from rfl)⟩
   ·intro vs W lW hN hV
    obtain ⟨fq, dd⟩ : ∃ X, X = W := ⟨W, rfl⟩
    subst dd
    have b6 := b4.t lW rfl
    have am : vs 0 = .agg [A, B].toArray := (hN 0 (zbM rfl))
    obtain ⟨vs, rfl⟩ := zch am
    refine Tr.mono (T.call rfl (p59 (k0 := 7) (k1 := 8) (Repo.rd (K := [0]) x0.Commits x0.Heads (L.ul b6) (N.ul b6)) c9)) ?_
    rintro _ _ ⟨an, rfl, de, ⟨ao, ap, rfl, df, dg⟩⟩
    exact ⟨an, rfl, de, (show (.agg [ao, ap].toArray : Value) = .agg [ao, ap].toArray ∧ Ow an 7 [] [ao] b.Commits ∧ Ow an 8 [] [ap] b.Heads from ⟨rfl, df, dg⟩)⟩
   ·intro vs W lW hN hV
    obtain ⟨dh, di⟩ : ∃ X, X = W := ⟨W, rfl⟩
    subst di
    refine Tr.mono (Run.tr (R.mv (v := vS x1) rfl)) ?_
    rintro _ _ ⟨hu, rfl⟩
    obtain rfl := hu.symm
    exact ⟨dh, rfl, Le.refl _ _, (show (vS x1 : Value) = vS x1 from rfl)⟩
   ·intro vs W lW hN hV
    obtain ⟨dj, dk⟩ : ∃ X, X = W := ⟨W, rfl⟩
    subst dk
    refine Tr.mono (Run.tr (R.lda (cs := [i, vS f, k]) ((c7.up C).up lW rfl).cells rfl rfl)) ?_
    rintro _ _ ⟨hu, rfl⟩
    obtain rfl := hu.symm
    exact ⟨dj, rfl, Le.refl _ _, (show (.agg [i, vS f, k].toArray : Value) = .agg [i, vS f, k].toArray from rfl)⟩
   ·intro vs W lW hN hV
    obtain ⟨b7, dl⟩ : ∃ X, X = W := ⟨W, rfl⟩
    subst dl
    obtain ⟨D, E, aq⟩ : ∃ D E : Value, vs 1 = .agg [D, E].toArray := ⟨_, _, (hN 1 (zbM rfl)).1⟩
    obtain ⟨vs, rfl⟩ := zch aq
    have dm : Ow b7 7 [] [D] b.Commits := (hN 1 (zbM rfl)).2.1
    have dn : Ow b7 8 [] [E] b.Heads := (hN 1 (zbM rfl)).2.2
    have ar : vs 2 = vS x1 := (hN 2 (zbM rfl))
    obtain ⟨vs, rfl⟩ := zch ar
    have au : vs 3 = .agg [i, vS f, k].toArray := (hN 3 (zbM rfl))
    obtain ⟨vs, rfl⟩ := zch au
    refine Tr.mono (T.call rfl (p131 (K := [4, 6, 7, 8])  (x0 := (Vm.Repo.mk b.Commits b.Heads)) (x2 := (Vm.Commit.mk H f I)) ((Repo.rd (K := [7, 8]) b.Commits b.Heads (dm.rd.sub (M := [7, 8]) rfl) (dn.rd.sub (M := [7, 8]) rfl)).sub (M := [4, 6, 7, 8]) rfl) ((Commit.rd (K := [4, 6]) H f I (((b0.up C).up lW rfl).rd.sub (M := [4, 6]) rfl) (((b2.up C).up lW rfl).rd.sub (M := [4, 6]) rfl)).sub (M := [4, 6, 7, 8]) rfl) da)) ?_
    rintro _ _ ⟨av, rfl, dp, ⟨aw, ax, rfl, dq, dr⟩⟩
    have ds := dq.sub (M := [0, 4, 6, 7, 8]) rfl
    have dt := dr.sub (M := [0, 4, 6, 7, 8]) rfl
    exact ⟨av, rfl, dp, (show (.agg [aw, ax].toArray : Value) = .agg [aw, ax].toArray ∧ Rd av [0, 4, 6, 7, 8] [aw] a.Commits ∧ Rd av [0, 4, 6, 7, 8] [ax] a.Heads from ⟨rfl, ds, dt⟩)⟩
   ·intro vs W lW hN hV
    obtain ⟨fr, du⟩ : ∃ X, X = W := ⟨W, rfl⟩
    subst du
    refine Tr.mono (T.alloc 9 (cs := [.slice none 0 0, .slice none 0 0]) rfl) ?_
    rintro _ _ ⟨ay, b8, rfl, rfl, dv, dw⟩
    exact ⟨b8, rfl, dv, (show (ptr (bx ay) : Value) = ptr (bx ay) ∧ Bx b8 9 ay [.slice none 0 0, .slice none 0 0] from ⟨rfl, dw⟩)⟩
   ·intro vs W lW hN hV
    obtain ⟨az, dx⟩ : ∃ X, X = W := ⟨W, rfl⟩
    subst dx
    obtain ⟨d, e, a0⟩ : ∃ d e : Value, vs 4 = .agg [d, e].toArray := ⟨_, _, (hN 4 (zbM rfl)).1⟩
    obtain ⟨vs, rfl⟩ := zch a0
    have dy : Rd az [0, 4, 6, 7, 8] [d] a.Commits := (hN 4 (zbM rfl)).2.1
    have dz : Rd az [0, 4, 6, 7, 8] [e] a.Heads := (hN 4 (zbM rfl)).2.2
    obtain ⟨y, a1⟩ : ∃ y, vs 5 = ptr (bx y) := ⟨_, ((hN 5 (zbM rfl))).1⟩
    obtain ⟨vs, rfl⟩ := zch a1
    have d0 : Bx az 9 y [.slice none 0 0, .slice none 0 0] := (hN 5 (zbM rfl)).2
    refine Tr.mono (T.sta (vs := [d, e]) d0 rfl rfl (zaa dy.oc (zaa dz.oc zaw)) rfl rfl) ?_
    rintro _ _ ⟨b9, rfl, d1, d2⟩
    exact ⟨b9, rfl, d1, (show (ptr (bx y)) = ptr (bx y) ∧ Bx b9 9 y [d, e] from ⟨rfl, d2⟩)⟩
   ·intro vs W lW hN
    obtain ⟨P, d3⟩ : ∃ X, X = W := ⟨W, rfl⟩
    subst d3
    have d4 := b4.t lW rfl
    obtain ⟨fs, hl192⟩ : ∃ x, x = lW := ⟨lW, rfl⟩
    have am : vs 0 = .agg [A, B].toArray := (hN 0 (zbM rfl))
    obtain ⟨vs, rfl⟩ := zch am
    obtain ⟨D, E, aq⟩ : ∃ D E : Value, vs 1 = .agg [D, E].toArray := ⟨_, _, (hN 1 (zbM rfl)).1⟩
    obtain ⟨vs, rfl⟩ := zch aq
    have d5 : Ow P 7 [] [D] b.Commits := (hN 1 (zbM rfl)).2.1
    have d6 : Ow P 8 [] [E] b.Heads := (hN 1 (zbM rfl)).2.2
    have ar : vs 2 = vS x1 := (hN 2 (zbM rfl))
    obtain ⟨vs, rfl⟩ := zch ar
    have au : vs 3 = .agg [i, vS f, k].toArray := (hN 3 (zbM rfl))
    obtain ⟨vs, rfl⟩ := zch au
    obtain ⟨d, e, a0⟩ : ∃ d e : Value, vs 4 = .agg [d, e].toArray := ⟨_, _, (hN 4 (zbM rfl)).1⟩
    obtain ⟨vs, rfl⟩ := zch a0
    have a3 : Rd P [0, 4, 6, 7, 8] [d] a.Commits := (hN 4 (zbM rfl)).2.1
    have a5 : Rd P [0, 4, 6, 7, 8] [e] a.Heads := (hN 4 (zbM rfl)).2.2
    obtain ⟨y, a1⟩ : ∃ y, vs 5 = ptr (bx y) := ⟨_, (hN 6 (zbM rfl)).1⟩
    obtain ⟨vs, rfl⟩ := zch a1
    have cb : Bx P 9 y [d, e] := (hN 6 (zbM rfl)).2
    refine ssr (Lw.r rfl (R.lda (cs := [d, e]) cb.cells rfl rfl) (ca hm (fun _ => p23 (K := [0, 4, 6, 7, 8]) (Repo.rd (K := [0, 4, 6, 7, 8]) a.Commits a.Heads a3 a5)) fun ft fu hm z => ?_))
    have Y := d4.n z
    have cc := (((((((b3.up l10).up ah).up O).up U).up ak).up C).up lW rfl).up z
    refine Lw.r rfl (R.not rfl) (nl (cn hm (fun hm => ?_) fun hm => ?_))
    ·refine sr (la ((b5.up lW rfl).up z) (cr hm (fun _ => p59 (k0 := 10) (k1 := 11) (Repo.rd (K := [0]) x0.Commits x0.Heads (L.ul Y) (N.ul Y))) ?_))
     rintro cd _ fv hm ce ⟨cf, cg, rfl, ch, ci⟩
     have d7 := Y.n ce
     refine sta (cc.up ce) (zaa ch.oc (zaa ci.oc zaw)) fun fw a6 d8 => ?_
     have d9 := d7.t a6
     refine Nb rfl ?_
     obtain ⟨ea, eb, a7, ec⟩ := zgW _ 10
     have ed : Rd (α := List Vm.Commit) ea [0] [cf] cd.Commits := by rw [ec]; exact ((ch.up a6).rd.dye 10).sub (M := [0]) rfl
     have ee := d9.t a7
     obtain ⟨ef, eg, cj, eh⟩ := zgW _ 11
     have ei : Rd (α := List Vm.Head) ef [0] [cg] cd.Heads := by rw [eh]; exact (((ci.up a6).up a7).rd.dye 11).sub (M := [0]) rfl
     have ck := cj.s
     cases hm
     rw [← eg.trans (eb)]
     exact Cw.ret (zeM rfl ((d8.up a7).up cj) rfl (Res.mk (ee.trans ck) ⟨cf, cg, rfl, (ed.ul ck), ei⟩))
    ·refine sk (sr (la (cb.up z) (sta cc (zaa a3.oc (zaa a5.oc zaw)) fun fx F ej => ?_)))
     have ek := Y.t F
     refine Nb rfl ?_
     have el := a3.up ((z.sub (M := [3]) rfl).trans (F.sub (M := [3]) rfl)) rfl
     have em := a5.up ((z.sub (M := [3]) rfl).trans (F.sub (M := [3]) rfl)) rfl
     obtain ⟨a8, en, Q, a9⟩ := zgW _ 4
     have eo : Rd a8 [0, 6, 7, 8] [d] a.Commits := by rw [a9]; exact (el.dye 4).sub (M := [0, 6, 7, 8]) rfl
     have ep : Rd a8 [0, 6, 7, 8] [e] a.Heads := by rw [a9]; exact (em.dye 4).sub (M := [0, 6, 7, 8]) rfl
     have fy : Rd (α := List Vm.File) a8 [0] [k] I := by rw [a9]; exact (((((b2.up C).up lW rfl).up z).up F).rd.dye 4).sub (M := [0]) rfl
     have er := ek.t Q
     obtain ⟨ba, es, Z, bb⟩ := zgW _ 6
     have et : Rd ba [0, 7, 8] [d] a.Commits := by rw [bb]; exact (eo.dye 6).sub (M := [0, 7, 8]) rfl
     have eu : Rd ba [0, 7, 8] [e] a.Heads := by rw [bb]; exact (ep.dye 6).sub (M := [0, 7, 8]) rfl
     have fz : Rd (α := List Int) ba [0] [i] H := by rw [bb]; exact ((((((b0.up C).up lW rfl).up z).up F).up Q).rd.dye 6).sub (M := [0]) rfl
     have ew := er.t Z
     obtain ⟨bc, ex, be, bg⟩ := zgW _ 7
     have ey : Rd bc [0, 8] [d] a.Commits := by rw [bg]; exact (et.dye 7).sub (M := [0, 8]) rfl
     have ez : Rd bc [0, 8] [e] a.Heads := by rw [bg]; exact (eu.dye 7).sub (M := [0, 8]) rfl
     have f0 : Rd (α := List Vm.Commit) bc [0] [D] b.Commits := by rw [bg]; exact (((((d5.up z).up F).up Q).up Z).rd.dye 7).sub (M := [0]) rfl
     have e0 := ew.t be
     obtain ⟨bh, e1, cl, bi⟩ := zgW _ 8
     have e2 : Rd bh [0] [d] a.Commits := by rw [bi]; exact (ey.dye 8).sub (M := [0]) rfl
     have e3 : Rd bh [0] [e] a.Heads := by rw [bi]; exact (ez.dye 8).sub (M := [0]) rfl
     have f1 : Rd (α := List Vm.Head) bh [0] [E] b.Heads := by rw [bi]; exact ((((((d6.up z).up F).up Q).up Z).up be).rd.dye 8).sub (M := [0]) rfl
     have e4 := e0.t cl
     cases hm
     rw [← e1.trans (ex.trans (es.trans (en)))]
     exact Cw.ret (zeM rfl ((((ej.up Q).up Z).up be).up cl) rfl (Res.mk e4 ⟨d, e, rfl, e2, e3⟩))
  ·refine sr (la aj (ms rfl (ca hm (fun _ => p100 (Repo.rd (K := [0]) x0.Commits x0.Heads (L.ul V) (N.ul V))) fun f2 e5 hm G => ?_)))
   have cm := V.n G
   have co := ((ai.up O).up U).up G
   refine Lw.ge rfl (nl (cn hm (fun hm => ?_) fun hm => ?_))
   ·refine rg (la (aj.up G) (ms rfl (ca hm (fun _ => p100 (Repo.rd (K := [0]) x0.Commits x0.Heads (L.ul cm) (N.ul cm))) fun bj e6 hm bk => Lw.t rfl (T.bsS (α := Int) (xs := [bj]) 12 [] (W := e6) [vI bj] (Each.cons ((rdI _)) Each.nil) rfl) ?_)))
    rintro cp _ ⟨f3, rfl, bl, cq⟩
    refine Lw.fa rfl (Lw.u (T.st (j := 0) (v := cp) (((bz.up G).up bk).up bl) rfl rfl cq.oc rfl rfl) ?_)
    rintro _ _ ⟨f4, rfl, bm, e7⟩
    refine nl ?_
    obtain ⟨e8, e9, bn, fb⟩ := (cq.up bm).dyeO 6
    exact (ag) ⟨([bj] : List Int), x2, bw, cp, S, e8, e9, ((((G.j bk).j bl).j bm).j bn).w, rfl, fb, ((((co.up bk).up bl).up bm).up bn), (e7.up bn), hm⟩
   ·exact sk ((ag) ⟨([] : List Int), x2, bw, .slice none 0 0, S, e5, rfl, G.w, rfl, owN 6 [], co, (bz.up G), hm⟩)
theorem p120 {x0 d f x1 x2 x3 h r} (i : Rd W K [d, f] x0) (k : Rd W K [h] x3) (hm : Vm.zcH x0 x1 x2 x3 = some r) : Q1 120 [.agg [d, f].toArray, vS x1, vS x2, h] W [] fun W' v => ∃ a b, v = .tuple [.agg [a, b].toArray, vB r.2].toArray ∧ Rd W' (0 :: K) [a] r.1.Commits ∧ Rd W' (0 :: K) [b] r.1.Heads :=
 (c120 (i.view _) (k.view _) hm).ad (fk 0) fun _ _ ⟨a, b, e, x, y⟩ => ⟨a, b, e, x.back rfl, y.back rfl⟩
theorem c102 {x0 h i x1 L x2 A x3 r} (X : Rd W0 [0] [h, i] x0) (Y : Rd W0 [0] [vI x1.Kind, vS x1.Branch, vS x1.Who, vS x1.Path, vS x1.To, vI x1.At, L] x1) (Z : Rd W0 [0] [A] x2) (hm : Vm.zbc x0 x1 x2 x3 = some r) : Q0 102 [.agg [h, i].toArray, .agg [vI x1.Kind, vS x1.Branch, vS x1.Who, vS x1.Path, vS x1.To, vI x1.At, L].toArray, A, vB x3] W0 fun Wf v => ∃ N O, v = .tuple [.agg [N, O].toArray, vI r.2].toArray ∧ Rd Wf [0] [N] r.1.Commits ∧ Rd Wf [0] [O] r.1.Heads := by
 unfold Vm.zbc at hm
 obtain ⟨au, av, P, a, b⟩ := Repo.split X
 simp only [List.cons.injEq, and_true, true_and] at P
 obtain ⟨rfl, rfl⟩ := P
 obtain ⟨aw, Q, ax⟩ := Op.split Y
 simp only [List.cons.injEq, and_true, true_and] at Q
 obtain rfl := Q
 refine zap.of Tryz.func102 rfl rfl rfl rfl (sr (bo 2 rfl fun g1 W1 l1 b1 => ?_))
 have a2 := l1.o
 refine bo 3 rfl fun g3 W3 S T => ?_
 have a4 := a2.n S
 refine al 4 [.slice none 0 0, .slice none 0 0] fun g6 W6 k U => ?_
 have d := a4.n k
 have B := (b1.up S).up k
 refine Ni rfl (ssr (mb rfl (Lw.r rfl (R.not rfl) (nl (cn hm (fun hm => ?_) fun hm => ?_)))))
 ·refine sr (la B (sta U (zaa a.oc (zaa b.oc zaw)) fun a6 ah ai => ?_))
  have C := d.t ah
  refine Ni rfl ?_
  cases hm
  exact Cw.ret (zeM rfl ai rfl (Res.mk C ⟨h, i, rfl, (a.ul C), (b.ul C)⟩))
 ·refine sk (sr (la B (fl (T.up k) rfl (fl (T.up k) rfl (mv A rfl (cr hm (fun _ => p120 (Repo.rd (K := [0]) x0.Commits x0.Heads (a.ul d) (b.ul d)) (Z.ul d)) ?_))))))
  rintro x _ a8 hm D ⟨e, f, rfl, aj, ak⟩
  have E := aj.sub (M := [0]) rfl
  have F := ak.sub (M := [0]) rfl
  have V := d.n D
  refine mv (.tuple [.agg [e, f].toArray, vB x.2].toArray) rfl (Lw.r rfl (R.ext (vs := [.agg [e, f].toArray, vB x.2]) (v := .agg [e, f].toArray) rfl rfl) (Lw.r rfl (R.ext (vs := [.agg [e, f].toArray, vB x.2]) (v := vB x.2) rfl rfl) (al 5 [.slice none 0 0, .slice none 0 0] fun a9 ba G am => ?_)))
  have y := G.o
  refine sta am (zaa E.oc (zaa F.oc zaw)) fun bb H an => ?_
  have z := H.s
  have W := ((U.up D).up G).up H
  refine Nb rfl (ssr (mb rfl (Lw.r rfl (R.not rfl) (nl (cn hm (fun hm => ?_) fun hm => ?_)))))
  ·refine sr (la (((B.up D).up G).up H) (sta W (zaa a.oc (zaa b.oc zaw)) fun bc ao ap => ?_))
   have I := ((V.trans y).trans z).t ao
   refine Ni rfl ?_
   cases hm
   exact Cw.ret (zeM rfl ap rfl (Res.mk I ⟨h, i, rfl, (a.ul I), (b.ul I)⟩))
  ·refine sk (sr (la an (sta W (zaa E.oc (zaa F.oc zaw)) fun be aq ar => ?_)))
   have J := aq.s
   refine Ni rfl ?_
   cases hm
   exact Cw.ret (zeM rfl ar rfl (Res.mk (((V.trans y).trans z).trans J) ⟨e, f, rfl, (E.ul ((y.trans z).trans J)), (F.ul ((y.trans z).trans J))⟩))
theorem p102 {x0 d f x1 h x2 i x3 r} (k : Rd W K [d, f] x0) (x : Rd W K [vI x1.Kind, vS x1.Branch, vS x1.Who, vS x1.Path, vS x1.To, vI x1.At, h] x1) (y : Rd W K [i] x2) (hm : Vm.zbc x0 x1 x2 x3 = some r) : Q1 102 [.agg [d, f].toArray, .agg [vI x1.Kind, vS x1.Branch, vS x1.Who, vS x1.Path, vS x1.To, vI x1.At, h].toArray, i, vB x3] W [] fun W' v => ∃ a b, v = .tuple [.agg [a, b].toArray, vI r.2].toArray ∧ Rd W' (0 :: K) [a] r.1.Commits ∧ Rd W' (0 :: K) [b] r.1.Heads :=
 (c102 (k.view _) (x.view _) (y.view _) hm).ad (fk 0) fun _ _ ⟨a, b, e, z, A⟩ => ⟨a, b, e, z.back rfl, A.back rfl⟩
theorem c121 {x0 d x1 r} (C : Rd W0 [0] [d] x0) (hm : Vm.zd9 x0 x1 = some r) : Q0 121 [d, vS x1] W0 fun Wf v => ∃ H, v = H ∧ OwS (α := List (Sh Vm.File)) Wf LL [0] [H] r := by
 unfold Vm.zd9 at hm
 refine zap.of Tryz.func121 rfl rfl rfl rfl (sr (Nv (.slice none 0 0) rfl (sr (Lw.t rfl (T.lit0 (α := File) 2 []) ?_))))
 rintro I _ ⟨W1, rfl, U, V⟩
 have W := U.o
 refine Nv I rfl (ssr (Ni rfl (Cw.block ?_)))
 obtain ⟨X, Y, hm⟩ := za1 hm
 obtain ⟨J, Z, l9, o9⟩ := V.toSh
 have ae := W.t l9
 rw [← Z]
 refine Cw.loop 8 37 [5, 6] (fun m l w => ∃ (k : List Vm.File) (x : Int) (a : Value) (b : CW), b.w = w ∧ Le [2] J b ∧ l = [a, vI x] ∧ Ow (α := List (Sh Vm.File)) b 2 [0] [a] k ∧ Vm.zbY x0 x1 X m k x = some r) _ ⟨([] : List File), 0, I, J, rfl, Le.refl _ _, rfl, o9, hm⟩ ?_
 rintro (_ | a0) _ _ σ ⟨k, x, a, b, rfl, L, rfl, D, hm⟩
 ·cases hm
 unfold Vm.zbY at hm
 have E := ae.t L
 refine ssr ?_
 have e := C.ul E
 refine mi rfl (mv d rfl (Lw.ln x0 e rfl (Lw.lt rfl (nl (cn hm (fun hm => ?_) fun hm => ?_)))))
 ·refine sk ?_
  obtain ⟨af, ah, hm⟩ := za1 hm
  refine Cw.join 14 37 [5] (fun l w => ∃ (y : List Vm.File) (z : Value) (f : CW), f.w = w ∧ Le [2] b f ∧ l = [z] ∧ Ow (α := List (Sh Vm.File)) f 2 [0] [z] y ∧ af y = some r) ?_ ?_
  ·rintro _ _ σ ⟨y, z, f, rfl, ai, rfl, aj, hm⟩
   rw [ah] at hm
   exact rg (mi rfl (Lw.add rfl (Ni rfl ((agm) ⟨y, w64 (x + 1), z, f, rfl, (L.j ai).w, rfl, aj, hm⟩))))
  ·refine Cw.block ?_
   obtain ⟨ak, am, hm⟩ := za1 hm
   refine Cw.join 14 30 [30] (fun l w => ∃ F A, CW.w A = w ∧ Le [] b A ∧ l = [vB F] ∧ ak F = some r) ?_ ?_
   ·rintro _ _ σ ⟨F, A, rfl, h, rfl, hm⟩
    rw [am] at hm
    have M := E.n h
    refine cn hm (fun hm => ?_) fun hm => ?_
    ·refine rg (mv a rfl (mv d rfl (mi rfl ?_)))
     obtain ⟨B, N, hm⟩ := ob hm
     refine Lw.r rfl (R.ix (α := File) (C.ul M) N rfl rfl rfl) ?_
     obtain ⟨x30, c31, _, r32⟩ := ((C.ul M).at_ N).cells
     obtain ⟨O, rfl, r34⟩ := File.split r32
     refine Lw.r rfl (R.lda c31 rfl rfl) (Lw.t rfl (T.bs 3 [.agg [vS B.Path, O].toArray] (cs := [vS B.Path, O]) rfl rfl (bsA rfl)) ?_)
     rintro _ _ ⟨a1, a3, rfl, rfl, G, an⟩
     have ao := G.o
     obtain ⟨ap, aq, hm⟩ := ob hm
     refine Lw.t rfl (T.app1S (α := Sh Vm.File) (K' := [0]) ((D.up h).up G) an (File.rd (K := [0]) B.Path B.Text (r34.ul ao)).sh1 rfl rfl aq) ?_
     rintro P _ ⟨ar, rfl, au, av⟩
     exact Nv P rfl ((ag) ⟨ap, P, ar, rfl, ((h.j G).j au).w, rfl, av, hm⟩)
    ·exact sk ((ag) ⟨k, a, A, rfl, h.w, rfl, (D.up h), hm⟩)
   ·refine rg (mv d rfl (mi rfl ?_))
    obtain ⟨a4, Q, hm⟩ := ob hm
    refine Lw.r rfl (R.ix (α := File) e Q rfl rfl rfl) (Lw.fa rfl (Lw.r rfl (R.ld rfl rfl (File.at0 (e.at_ Q)).str) (ms rfl (Lw.sne rfl (mb rfl (bs hm (fun i hm => ?_) fun i hm => ?_))))))
    ·refine wak 8 i (ms rfl (mv d rfl (mi rfl ?_)))
     obtain ⟨a5, S, hm⟩ := ob hm
     exact Lw.r rfl (R.ix (α := File) e S rfl rfl rfl) (Lw.fa rfl (Lw.r rfl (R.ld rfl rfl (File.at0 (e.at_ S)).str) (ca hm (fun _ => p67) fun aw ax hm ay => Lw.r rfl (R.not rfl) (Pb i rfl (nl ((ag) ⟨(!aw), ax, rfl, ay, rfl, hm⟩))))))
    ·exact psk 8 i rfl (Pb i rfl (nl ((ag) ⟨false, b, rfl, Le.refl _ _, rfl, hm⟩)))
 ·refine Cw.exit ?_
  rw [Y] at hm
  refine sr (mv a rfl (Nv a rfl ?_))
  cases hm
  exact Cw.ret (zhh rfl (Res.mk E ⟨a, rfl, D.s.sub rfl rfl⟩))
theorem p121 {x0 b x1 k0 r} (d : Rd W K [b] x0) (hm : Vm.zd9 x0 x1 = some r) : Q1 121 [b, vS x1] W [] fun W' v => ∃ a, v = a ∧ Ow (α := List (Sh Vm.File)) W' k0 (0 :: K) [a] r :=
 (c121 (d.view _) hm).ad (fk k0) fun _ _ ⟨a, e, f⟩ => ⟨a, e, f.backS (zhf _) rfl⟩
theorem c103 {x0 b x1 r} (d : Rd W0 [0] [b] x0) (hm : Vm.zcw x0 x1 = some r) : Q0 103 [b, vS x1] W0 fun Wf v => ∃ h, v = .tuple [h, vB r.2].toArray ∧ OwS (α := List (Sh Vm.File)) Wf LL [0] [h] r.1 := by
 unfold Vm.zcw at hm
 refine zap.of Tryz.func103 rfl rfl rfl rfl (sr (Gv (.slice none 0 0) rfl (Nb rfl (ssr (mv b rfl (ca hm (fun _ => p44 d) fun O P hm B => ?_))))))
 have e := B.o
 refine Lw.r rfl (R.not rfl) (nl (cn hm (fun hm => ?_) fun hm => ?_))
 ·refine sr (Gv (.slice none 0 0) rfl (Nb rfl ?_))
  cases hm
  exact Cw.ret (zis rfl rfl (Res.mk e ⟨.slice none 0 0, rfl, (zlI [0]).sub rfl rfl⟩))
 ·refine sk (sr (mv b rfl (cr hm (fun _ => p97 (k0 := 2) (d.ul e)) ?_)))
  rintro C D Q hm E ⟨_, rfl, i⟩
  have F := e.n E
  refine ms rfl (cr hm (fun _ => p121 (K := [2]) (k0 := 3) i.rd) ?_)
  rintro f a G hm k ⟨_, rfl, x⟩
  have y := F.n k
  refine Nv a rfl (sr ?_)
  have H : Rd (α := List Vm.File) G [3, 0, 2] [a] f := Ow.rdSh x
  refine mv a rfl (mv a rfl (Lw.ln f H rfl (mv b rfl (Lw.ln x0 (d.ul y) rfl (Lw.lt rfl (Gv a rfl (Nb rfl ?_)))))))
  obtain ⟨z, I, J, A⟩ := zgW _ 2
  have S : Rd (α := List Vm.File) z [0] [D] C := by rw [A]; exact ((i.up k).rd.dye 2).sub (M := [0]) rfl
  have L : Ow (α := List (Sh Vm.File)) z 3 [0] [a] f := by rw [A]; exact (x.dyeA 2 rfl).sub rfl
  have N := y.t J
  cases hm
  rw [← I]
  exact Cw.ret (zis rfl rfl (Res.mk N ⟨a, rfl, L.s.sub rfl rfl⟩))
theorem p103 {x0 b x1 k0 r} (d : Rd W K [b] x0) (hm : Vm.zcw x0 x1 = some r) : Q1 103 [b, vS x1] W [] fun W' v => ∃ a, v = .tuple [a, vB r.2].toArray ∧ Ow (α := List (Sh Vm.File)) W' k0 (0 :: K) [a] r.1 :=
 (c103 (d.view _) hm).ad (fk k0) fun _ _ ⟨a, e, f⟩ => ⟨a, e, f.backS (zhf _) rfl⟩
theorem c104 {x0 b x1 x2 r} (f : Rd W0 [0] [b] x0) (hm : Vm.zcx x0 x1 x2 = some r) : Q0 104 [b, vS x1, vS x2] W0 fun Wf v => ∃ u0, v = .tuple [u0, vB r.2].toArray ∧ OwS (α := List (Sh Vm.File)) Wf LL [0] [u0] r.1 := by
 unfold Vm.zcx at hm
 refine zap.of Tryz.func104 rfl rfl rfl rfl (sr (Gv (.slice none 0 0) rfl (Nb rfl (ssr (mv b rfl (ca hm (fun _ => p44 f) fun z1 W3 hm l3 => ?_))))))
 have O := l3.o
 refine Lw.r rfl (R.not rfl) (nl (cn hm (fun hm => ?_) fun hm => ?_))
 ·refine sr (Gv (.slice none 0 0) rfl (Nb rfl ?_))
  cases hm
  exact Cw.ret (zis rfl rfl (Res.mk O ⟨.slice none 0 0, rfl, (zlI [0]).sub rfl rfl⟩))
 ·refine sk (sr (mv b rfl (cr hm (fun _ => p97 (k0 := 2) (f.ul O)) ?_)))
  rintro z7 a7 W9 hm l9 ⟨_, rfl, am⟩
  have a9 := O.n l9
  refine ms rfl (cr hm (fun _ => p121 (K := [2]) (k0 := 3) am.rd) ?_)
  rintro D i P hm an ⟨_, rfl, ao⟩
  have ap := a9.n an
  refine Nv i rfl (Cw.seq ?_)
  obtain ⟨ba, bb, hm⟩ := za1 hm
  refine Cw.join 18 27 [27] (fun l w => ∃ Q S, CW.w S = w ∧ Le [] P S ∧ l = [vB Q] ∧ ba Q = some r) ?_ ?_
  ·rintro _ _ σ ⟨Q, S, rfl, U, rfl, hm⟩
   rw [bb] at hm
   have E := ap.n U
   refine cn hm (fun hm => ?_) fun hm => ?_
   ·refine sr (mv b rfl (cr hm (fun _ => p97 (k0 := 4) (f.ul E)) ?_))
    rintro c8 aq c9 hm bc ⟨_, rfl, be⟩
    have bg := E.n bc
    refine Gv aq rfl (Nb rfl ?_)
    obtain ⟨da, bh, bi, bj⟩ := be.toSh
    have bk := bg.t bi
    cases hm
    rw [← bh]
    exact Cw.ret (zis rfl rfl (Res.mk bk ⟨aq, rfl, bj.s.sub rfl rfl⟩))
   ·refine sk (sr (mv b rfl (Lw.ln x0 (f.ul E) rfl (Ni rfl (ssr (Ni rfl (Cw.block ?_)))))))
    obtain ⟨F, bl, bm, ar⟩ := zgW _ 2
    rw [← bl]
    have db : Rd (α := List Vm.File) F [0] [a7] z7 := by rw [ar]; exact (((am.up an).up U).rd.dye 2).sub (M := [0]) rfl
    have bn : Ow (α := List (Sh Vm.File)) F 3 [0] [i] D := by rw [ar]; exact ((ao.up U).dyeA 2 rfl).sub rfl
    have bp := E.t bm
    obtain ⟨bq, br, hm⟩ := za1 hm
    refine Cw.loop 32 71 [8, 10] (fun m l w => ∃ (d : List Vm.File) (G : Int) (a : Value) (e : CW), e.w = w ∧ Le [3, 5] F e ∧ l = [a, vI G] ∧ Ow (α := List (Sh Vm.File)) e 3 [0] [a] d ∧ Vm.zaL x0 x1 x2 bq m d G = some r) _ ⟨D, 0, i, F, rfl, Le.refl _ _, rfl, bn, hm⟩ ?_
    rintro (_ | dc) _ _ σ ⟨d, G, a, e, rfl, au, rfl, k, hm⟩
    ·cases hm
    unfold Vm.zaL at hm
    have V := bp.t au
    refine ssr ?_
    have x := f.ul V
    refine mi rfl (mv b rfl (Lw.ln x0 x rfl (Lw.lt rfl (nl (cn hm (fun hm => ?_) fun hm => ?_)))))
    ·refine sk ?_
     obtain ⟨bu, bv, hm⟩ := za1 hm
     refine Cw.join 38 71 [8] (fun l w => ∃ (H : List Vm.File) (I : Value) (y : CW), y.w = w ∧ Le [3, 5] e y ∧ l = [I] ∧ Ow (α := List (Sh Vm.File)) y 3 [0] [I] H ∧ bu H = some r) ?_ ?_
     ·rintro _ _ σ ⟨H, I, y, rfl, bw, rfl, bz, hm⟩
      rw [bv] at hm
      exact rg (mi rfl (Lw.add rfl (Ni rfl ((agm) ⟨H, w64 (G + 1), I, y, rfl, (au.j bw).w, rfl, bz, hm⟩))))
     ·refine Cw.block ?_
      obtain ⟨b0, b1, hm⟩ := za1 hm
      refine Cw.join 38 53 [53] (fun l w => ∃ W J, CW.w J = w ∧ Le [] e J ∧ l = [vB W] ∧ b0 W = some r) ?_ ?_
      ·rintro _ _ σ ⟨W, J, rfl, z, rfl, hm⟩
       rw [b1] at hm
       have b2 := V.n z
       refine cn hm (fun hm => ?_) fun hm => ?_
       ·refine Cw.draw [] [(0, 0), (1, 0), (2, 0), (3, 0), (4, 0), (5, 0), (6, 1), (7, 0), (8, 0), (9, 0), (10, 0), (11, 0), (12, 0), (13, 0), (14, 0), (15, 1), (16, 0), (17, 2), (18, 0)] mixed (by kernel_rfl) fun b3 X => ?_
        have b4 := b2.n X
        have av := (k.up z).up X
        refine Dv a rfl (Ds rfl (Dv b rfl (Di rfl ?_)))
        obtain ⟨u64, Y, hm⟩ := ob hm
        have h := f.ul b4
        refine Mw.p rfl rfl (fun _ => R.ix (α := File) h Y rfl rfl rfl) (Df rfl (Mw.q rfl rfl (fun _ c => R.ld rfl rfl (zam (File.at0 (h.at_ Y)).1 rfl (File.at0 (h.at_ Y)).str c)) (Ds rfl (Mw.p rfl rfl (fun _ => R.lenS rfl) ?_))))
        obtain ⟨dd, b5, hm⟩ := ob hm
        refine Mw.p rfl rfl (fun _ => R.ss b5 rfl (.inr rfl) (.inl ⟨rfl, rfl⟩)) ?_
        obtain ⟨L, b6, hm⟩ := ob hm
        refine Mw.p rfl rfl (fun _ => R.sad b6 rfl rfl) (Dv b rfl (Di rfl ?_))
        obtain ⟨aw, Z, hm⟩ := ob hm
        refine Mw.p rfl rfl (fun _ => R.ix (α := File) h Z rfl rfl rfl) (Df rfl ?_)
        obtain ⟨ax, c74, r75⟩ := (File.at1 (h.at_ Z)).cell rfl
        refine Mw.q rfl rfl (fun _ c => R.ld rfl rfl (zam (File.at1 (h.at_ Z)).1 rfl c74 c)) (Mw.p rfl rfl (fun _ => R.bd (zs := [vS ([] : Str), .slice none 0 0]) (cs := [vS L, ax]) [(0, vS L), (1, ax)] rfl rfl rfl (zaD rfl rfl (zaD r75.oc rfl zcU))) ?_)
        have b7 : Rd (α := List Vm.File) b3 [3, 0] [a] d := Ow.rdSh av
        obtain ⟨aa, b8, hm⟩ := ob hm
        refine Mw.t rfl rfl (T.call rfl (p119 (K := [0, 3]) (k0 := 5) (x1 := (Vm.File.mk L aw.Text)) (b7.sub (M := [0, 3]) rfl) ((File.rd (K := [0]) L aw.Text r75).sub (M := [0, 3]) rfl) b8)) ?_
        rintro N _ ⟨b9, rfl, ac, ⟨_, rfl, cb⟩⟩
        have cc : Ow (α := List (Sh Vm.File)) b9 5 [0, 3] [N] aa := cb.sub rfl
        refine m0 ac fun de => Hv N rfl (Mw.nil ?_)
        obtain ⟨ay, cd, ce, az⟩ := zgW _ 3
        have df : Rd (α := List Vm.File) ay [0] [a] d := by rw [az]; exact ((av.up ac).rd.dye 3).sub (M := [0]) rfl
        have cf : Ow (α := List (Sh Vm.File)) ay 5 [0] [N] aa := by rw [az]; exact (cc.dyeA 3 rfl).sub rfl
        obtain ⟨cg, ch, ci, cj⟩ := cf.dyeO 3
        exact (ag) ⟨aa, N, cg, ch.trans (cd), ((((z.j X).j ac).j ce).j ci).w, rfl, cj, hm⟩
       ·exact sk ((ag) ⟨d, a, J, rfl, z.w, rfl, (k.up z), hm⟩)
      ·refine rg (mv b rfl (mi rfl ?_))
       obtain ⟨dg, a0, hm⟩ := ob hm
       refine Lw.r rfl (R.ix (α := File) x a0 rfl rfl rfl) (Lw.fa rfl (Lw.r rfl (R.ld rfl rfl (File.at0 (x.at_ a0)).str) (ms rfl (Lw.seq rfl (mb rfl (bs hm (fun A hm => ?_) fun A hm => ?_))))))
       ·exact psk 7 A rfl (Pb A rfl (nl ((ag) ⟨true, e, rfl, Le.refl _ _, rfl, hm⟩)))
       ·refine wak 7 A (ms rfl (mv b rfl (mi rfl ?_)))
        obtain ⟨dh, a1, hm⟩ := ob hm
        exact Lw.r rfl (R.ix (α := File) x a1 rfl rfl rfl) (Lw.fa rfl (Lw.r rfl (R.ld rfl rfl (File.at0 (x.at_ a1)).str) (ca hm (fun _ => p67) fun ck cl hm cm => Pb A rfl (nl ((ag) ⟨ck, cl, rfl, cm, rfl, hm⟩)))))
    ·refine Cw.exit ?_
     rw [br] at hm
     refine Cw.seq ?_
     obtain ⟨co, cp, hm⟩ := za1 hm
     refine Cw.join 72 80 [80] (fun l w => ∃ ae af, CW.w af = w ∧ Le [] e af ∧ l = [vB ae] ∧ co ae = some r) ?_ ?_
     ·rintro _ _ σ ⟨ae, af, rfl, a2, rfl, hm⟩
      rw [cp] at hm
      have ah := V.n a2
      refine cn hm (fun hm => ?_) fun hm => ?_
      ·refine sr (mv b rfl (cr hm (fun _ => p97 (k0 := 6) (f.ul ah)) ?_))
       rintro di a3 dj hm cq ⟨_, rfl, ct⟩
       have cu := ah.n cq
       refine Gv a3 rfl (Nb rfl ?_)
       obtain ⟨dk, cv, cw, cx⟩ := ct.toSh
       have cy := cu.t cw
       cases hm
       rw [← cv]
       exact Cw.ret (zis rfl rfl (Res.mk cy ⟨a3, rfl, cx.s.sub rfl rfl⟩))
      ·refine sk (sr (mv a rfl (Gv a rfl (Nb rfl ?_))))
       cases hm
       exact Cw.ret (zis rfl rfl (Res.mk ah ⟨a, rfl, (k.up a2).s.sub rfl rfl⟩))
     ·refine rg (mv a rfl ?_)
      have cz : Rd (α := List Vm.File) e [3, 0] [a] d := Ow.rdSh k
      refine ca hm (fun _ => p44 (K := [0, 3]) (cz.sub (M := [0, 3]) rfl)) fun dl ai hm aj => Lw.r rfl (R.not rfl) (mb rfl (bs hm (fun B hm => ?_) fun B hm => ?_))
      ·exact psk 4 B rfl (Pb B rfl (nl ((ag) ⟨true, ai, rfl, aj, rfl, hm⟩)))
      ·refine wak 4 B (mv a rfl ?_)
       have c0 : Rd (α := List Vm.File) ai [3, 0] [a] d := Ow.rdSh (k.up aj)
       exact Lw.ln d c0 rfl (mi rfl (Lw.ne rfl (Pb B rfl (nl ((ag) ⟨(((d.length : Int) : Int) != ((x0.length : Int) : Int)), ai, rfl, aj, rfl, hm⟩)))))
  ·refine rg ?_
   have c1 : Rd (α := List Vm.File) P [3, 0, 2] [i] D := Ow.rdSh ao
   refine mv i rfl (Lw.ln D c1 rfl (mv b rfl (Lw.ln x0 (f.ul ap) rfl (Lw.eq rfl (mb rfl (bs hm (fun C hm => ?_) fun C hm => ?_))))))
   ·exact psk 3 C rfl (Pb C rfl (nl ((ag) ⟨true, P, rfl, Le.refl _ _, rfl, hm⟩)))
   ·exact wak 3 C (ms rfl (ca hm (fun _ => p65) fun c2 c3 hm c4 => Lw.r rfl (R.not rfl) (Pb C rfl (nl ((ag) ⟨(!c2), c3, rfl, c4, rfl, hm⟩)))))
theorem p104 {x0 b x1 x2 k0 r} (d : Rd W K [b] x0) (hm : Vm.zcx x0 x1 x2 = some r) : Q1 104 [b, vS x1, vS x2] W [] fun W' v => ∃ a, v = .tuple [a, vB r.2].toArray ∧ Ow (α := List (Sh Vm.File)) W' k0 (0 :: K) [a] r.1 :=
 (c104 (d.view _) hm).ad (fk k0) fun _ _ ⟨a, e, f⟩ => ⟨a, e, f.backS (zhf _) rfl⟩
end Go.Sx
