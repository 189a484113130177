/- Walks: each function answers as its model, printed by a program of ours. Conditions: the arguments read as they are given. -/
import Derived.Test.YtokbhelngoeblaaGreatDoorGTs
import Derived.Test.YtokbhelngoeblaaGreatDoorGM1
import Derived.Test.YtokbhelngoeblaaGreatDoorGW0
import Derived.Test.YtokbhelngoeblaaGreatDoorGW2
import Derived.Test.YtokbhelngoeblaaGreatDoorGW3
import Derived.Test.YtokbhelngoeblaaGreatDoorGW6
import Derived.Test.YtokbhelngoeblaaGreatDoorGW7
import Derived.Test.YtokbhelngoeblaaGreatDoorGW8
namespace Go.Sx
open Go Go.Proofs Go.Vm Rp
set_option linter.unusedVariables false
set_option linter.unusedSimpArgs false
variable {W W0 : CW} {K : List Nat}
theorem c14 {x0 f cw x1 x2 r} (h0 : Rd W0 [0] [f, cw] x0) (cx : Gl 0 W0 [0]) (hm : Vm.zeT x0 x1 x2 = some r) : Q0 14 [.agg [f, cw].toArray, vS x1, vI x2] W0 fun Wf v => ∃ cy cz, v = .tuple [.agg [cy, cz].toArray, vI r.2].toArray ∧ OwS Wf [31] [] [cy] r.1.Commits ∧ OwS Wf [32] [] [cz] r.1.Heads := by
 unfold Vm.zeT at hm
 obtain ⟨hk, hl, c2, y, E⟩ := Repo.split h0
 simp only [List.cons.injEq, and_true, true_and] at c2
 obtain ⟨rfl, rfl⟩ := c2
 refine zaj.of Tryz.func14 rfl rfl rfl rfl (sr (bo 2 rfl fun G W1 l1 b1 => ?_))
 have a2 := l1.o
 refine al 3 [.slice none 0 0, .slice none 0 0] fun g3 W3 l3 b3 => ?_
 have a4 := a2.n l3
 refine Ni rfl (ssr (la (b1.up l3) (ca hm (fun _ => p22 (Repo.rd (K := [0]) x0.Commits x0.Heads (y.ul a4) (E.ul a4)) (cx.ul a4)) fun z9 hq hm aj => ?_)))
 have ak := a4.n aj
 have a7 := (b1.up l3).up aj
 refine Lw.r rfl (R.not rfl) (nl (cn hm (fun hm => ?_) fun hm => ?_))
 ·refine sr (Lw.r rfl (R.bd (zs := [.slice none 0 0, .slice none 0 0]) (cs := [.slice none 0 0, .slice none 0 0]) [] rfl rfl rfl zdN) (sta (b3.up aj) (zaa rfl (zaa rfl zaR)) fun hr d1 d2 => ?_))
  have d3 := ak.t d1
  refine Ni rfl ?_
  cases hm
  exact Cw.ret (zjH rfl d2 rfl (Res.mk d3 ⟨.slice none 0 0, .slice none 0 0, rfl, (zm5 []).sub rfl rfl, (zm5 []).sub rfl rfl⟩))
 ·refine sk (sr (la a7 (ms rfl (ca hm (fun _ => p65 (Repo.rd (K := [0]) x0.Commits x0.Heads (y.ul ak) (E.ul ak))) fun hs c6 hm am => ?_))))
  have a8 := ak.n am
  refine Ni rfl (Cw.seq ?_)
  obtain ⟨d4, d5, hm⟩ := zaS hm
  refine Cw.join 21 28 [28] (fun l w => ∃ a9 ba, CW.w ba = w ∧ Le [] c6 ba ∧ l = [vB a9] ∧ d4 a9 = some r) ?_ ?_
  ·rintro _ _ σ ⟨a9, ba, rfl, bb, rfl, hm⟩
   rw [d5] at hm
   have H := a8.n bb
   have bc := (a7.up am).up bb
   have c7 := ((b3.up aj).up am).up bb
   refine cn hm (fun hm => ?_) fun hm => ?_
   ·refine sr (la bc (cr hm (fun _ => p67 (k0 := 4) (k1 := 5) (Repo.rd (K := [0]) x0.Commits x0.Heads (y.ul H) (E.ul H))) ?_))
    rintro ht _ hw hm c8 ⟨d6, d7, rfl, c9, da⟩
    have d8 := H.n c8
    refine sta (c7.up c8) (zaa c9.oc (zaa da.oc zaR)) fun hx be d9 => ?_
    have ea := d8.t be
    refine Ni rfl ?_
    obtain ⟨hy, eb, bg, ec⟩ := (c9.up be).dyeO 31
    have ed := ea.t bg
    obtain ⟨hz, ee, bh, ef⟩ := ((da.up be).up bg).dyeO 32
    have eg := ed.t bh
    cases hm
    rw [← ee.trans (eb)]
    exact Cw.ret (zjH rfl ((d9.up bg).up bh) rfl (Res.mk eg ⟨d6, d7, rfl, (ec.up bh).s, ef.s⟩))
   ·refine sk (sr (la bc (cr hm (fun _ => p67 (k0 := 6) (k1 := 7) (Repo.rd (K := [0]) x0.Commits x0.Heads (y.ul H) (E.ul H))) ?_)))
    rintro db _ h1 hm bi ⟨h2, h3, rfl, eh, ei⟩
    have ej := H.n bi
    refine ms rfl (mi rfl (cr hm (fun _ => p68 (K := [0]) (k0 := 8) (k1 := 9) (c0 := 6) (c1 := 7) (x0 := (Vm.Repo.mk db.Commits db.Heads)) eh ei rfl) ?_))
    rintro dc _ h4 hm bj ⟨ek, el, rfl, dd, de⟩
    have em := ej.t bj
    refine al 10 [.slice none 0 0, .slice none 0 0] fun df h5 F en => ?_
    have eo := em.n F
    refine sta en (zaa (dd.up F).oc (zaa (de.up F).oc zaR)) fun ep U er => ?_
    have es := eo.t U
    have dg := (((bc.up bi).up bj).up F).up U
    refine nl (ssr (la dg (mi rfl (mi rfl (Lw.t rfl (T.bsS (α := Int) (xs := [x2]) 11 [] (W := ep) [vI x2] (Each.cons ((rdI _)) Each.nil) rfl) ?_)))))
    rintro h6 _ ⟨h7, rfl, I, et⟩
    have bk := es.n I
    refine cr hm (fun _ => p69 (K := [0, 11]) (k0 := 12) ((Repo.rd (K := [0]) x0.Commits x0.Heads (y.ul bk) (E.ul bk)).sub (M := [0, 11]) rfl) (et.rd.sub (M := [0, 11]) rfl)) ?_
    rintro dh h8 di hm J ⟨_, rfl, bl⟩
    have eu := bk.n J
    refine Lw.ln dh bl.rd rfl (mi rfl (nl (Cw.block ?_)))
    obtain ⟨ew, ex, hm⟩ := zaS hm
    refine Cw.loop 42 73 [7, 11, 12, 13, 42] (fun m l w => ∃ V an Y Z L N dj bm bn aa ac i k z, CW.w z = w ∧ Le [10, 15, 16, 17] di z ∧ l = [vI V, dj, bm, bn, vI an] ∧ Ow z 13 [] [aa] Y ∧ Ow z 14 [] [ac] Z ∧ Bx z 3 g3 [aa, ac] ∧ Ow z 8 [] [i] L ∧ Ow z 9 [] [k] N ∧ Bx z 10 df [i, k] ∧ Vm.zcP x0 x1 dh ew m V an Y Z L N = some r) _ ⟨0, 0, ([] : List Commit), ([] : List Head), dc.Commits, dc.Heads, undef, undef, undef, .slice none 0 0, .slice none 0 0, ek, el, di, rfl, Le.refl _ _, rfl, owN 13 [], owN 14 [], ((((((c7.up bi).up bj).up F).up U).up I).up J), ((((dd.up F).up U).up I).up J), ((((de.up F).up U).up I).up J), ((er.up I).up J), hm⟩ ?_
    rintro (_ | h9) _ _ σ ⟨V, an, Y, Z, L, N, dj, bm, bn, aa, ac, i, k, z, rfl, ae, rfl, dk, dl, bp, ao, ap, aq, hm⟩
    ·cases hm
    unfold Vm.zcP at hm
    have ar := eu.t ae
    have bq := ((dg.up I).up J).up ae
    refine sr (Lw.lt rfl (nl (Cw.seq (cn hm (fun hm => ?_) fun hm => ?_))))
    ·refine sk ?_
     obtain ⟨ey, ez, hm⟩ := zaS hm
     refine Cw.join 44 72 [7, 11, 12, 13] (fun l w => ∃ au av aw ax ay br bu bv az a0 a1 a3 C, CW.w C = w ∧ Le [10, 15, 16, 17] z C ∧ l = [vI au, br, bu, bv] ∧ Ow C 13 [] [az] av ∧ Ow C 14 [] [a0] aw ∧ Bx C 3 g3 [az, a0] ∧ Ow C 8 [] [a1] ax ∧ Ow C 9 [] [a3] ay ∧ Bx C 10 df [a1, a3] ∧ ey au av aw ax ay = some r) ?_ ?_
     ·rintro _ _ σ ⟨au, av, aw, ax, ay, br, bu, bv, az, a0, a1, a3, C, rfl, e0, rfl, e1, e2, e3, e4, e5, e6, hm⟩
      rw [ez] at hm
      exact rg (Lw.add rfl (mi rfl (nl ((agm) ⟨au, w64 (an + 1), av, aw, ax, ay, br, bu, bv, az, a0, a1, a3, C, rfl, (ae.j e0).w, rfl, e1, e2, e3, e4, e5, e6, hm⟩))))
     ·refine Cw.block (sr ?_)
      obtain ⟨e, dm, hm⟩ := ob hm
      refine Lw.r rfl (R.ix (α := Int) (bl.up ae).rd dm rfl rfl rfl) (Lw.r rfl (R.ld rfl rfl ((bl.up ae).rd.at_ dm).int) (Ni rfl (ssr (fl bq rfl (mi rfl ?_)))))
      obtain ⟨e7, dn, hm⟩ := ob hm
      refine Lw.r rfl (R.ix (α := Commit) (y.ul ar) dn rfl rfl rfl) (Lw.fa rfl ?_)
      obtain ⟨ia, c159, r160⟩ := (Commit.at0 ((y.ul ar).at_ dn)).cell rfl
      refine Lw.r rfl (R.ld rfl rfl c159) (Lw.ln e7.Parents r160 rfl (Lw.gt rfl (nl (cn hm (fun hm => ?_) fun hm => ?_))))
      ·exact Cw.exit ((ag) ⟨V, Y, Z, L, N, vI e, bm, bn, aa, ac, i, k, z, rfl, Le.refl _ _, rfl, dk, dl, bp, ao, ap, aq, hm⟩)
      ·refine sk (Cw.seq ?_)
       obtain ⟨O, dp, hm⟩ := ob hm
       obtain ⟨a, e8, hm⟩ := ob hm
       refine Cw.par [[], [], [], [2], [], [2, 3, 4], [2, 3, 4, 5], [2, 3, 4, 5, 6], [], [0, 1, 2, 3, 4, 5, 6, 7, 8], [0, 1, 2, 3, 4, 5, 6, 7, 8, 9], [0, 1, 2, 3, 4, 5, 6, 7, 8, 9, 10], [0, 1, 2, 3, 4, 5, 6, 7, 8, 9, 10], [], [0, 1, 2, 3, 4, 5, 6, 7, 8, 9, 10, 11, 13], [0, 1, 2, 3, 4, 5, 6, 7, 8, 9, 10, 11, 12, 13, 14]] [[], [], [], [2], [], [3, 4], [5], [6], [], [0, 1, 7, 8], [9], [9, 10], [9, 10], [], [9, 11, 13], [12]] [[], [], [], [], [], [], [], [], [], [], [], [], [], [], [17], []] [[0], [1], [2], [3], [4], [5], [6], [7], [8], [9], [9, 10], [9, 11], [12], [13], [9, 13], [15]] [[], [], [], [], [], [], [], [], [], [15, 16], [], [], [], [17], [17], []] [0, 1, 2, 3, 4, 5, 6, 7, 8, 9, 10, 11, 12, 14, 15] [17] [fun vs W => (vs 0) = .agg [i, k].toArray, fun vs W => (vs 1) = vS x1, fun vs W => (vs 2) = ptr ((bx G).add 0), fun vs W => (vs 3) = f, fun vs W => (vs 4) = vI e, fun vs W => (vs 5) = ptr ((slA f).add ((e).toNat * Rp.sz (Commit))), fun vs W => (vs 6) = ptr (((slA f).add ((e).toNat * Rp.sz (Commit))).add 1), fun vs W => (vs 7) = vS O.Who, fun vs W => (vs 8) = vI e, fun vs W => (vs 9) = .tuple [.agg [(zaq (zaq (vs 9) 0) 0), (zaq (zaq (vs 9) 0) 1)].toArray, vI a.2].toArray ∧ Ow W 15 [] [(zaq (zaq (vs 9) 0) 0)] a.1.Commits ∧ Ow W 16 [] [(zaq (zaq (vs 9) 0) 1)] a.1.Heads, fun vs W => (vs 10) = .tuple [.agg [(zaq (zaq (vs 9) 0) 0), (zaq (zaq (vs 9) 0) 1)].toArray, vI a.2].toArray, fun vs W => (vs 11) = .agg [(zaq (zaq (vs 9) 0) 0), (zaq (zaq (vs 9) 0) 1)].toArray, fun vs W => (vs 12) = vI a.2, fun vs W => (vs 13) = ptr (bx (pg (vs 13))) ∧ Bx W 17 (pg (vs 13)) [.slice none 0 0, .slice none 0 0], fun vs W => (vs 13) = ptr (bx (pg (vs 13))) ∧ Bx W 17 (pg (vs 13)) [(zaq (zaq (vs 9) 0) 0), (zaq (zaq (vs 9) 0) 1)], fun vs W => (vs 15) = vI a.2] [] mixed (by kernel_rfl) rfl zq4.nil ?_
       intro ib A
       have a5 := ar.n A
       refine ⟨(zaN.cons ?_ (zaN.cons ?_ (zaN.cons ?_ (zaN.cons ?_ (zaN.cons ?_ (zaN.cons ?_ (zaN.cons ?_ (zaN.cons ?_ (zaN.cons ?_ (zaN.cons ?_ (zaN.cons ?_ (zaN.cons ?_ (zaN.cons ?_ (zaN.cons ?_ (zaN.cons ?_ (zaN.cons ?_ zaN.nil)))))))))))))))), (zdd.cons (fun vs vs' W W' _ hv l hd h => by (show (vs' 0) = .agg [i, k].toArray); rw [hv 0 (zat rfl)]; exact h) (zdd.cons (fun vs vs' W W' _ hv l hd h => by (show (vs' 1) = vS x1); rw [hv 1 (zat rfl)]; exact h) (zdd.cons (fun vs vs' W W' _ hv l hd h => by (show (vs' 2) = ptr ((bx G).add 0)); rw [hv 2 (zat rfl)]; exact h) (zdd.cons (fun vs vs' W W' _ hv l hd h => by (show (vs' 3) = f); rw [hv 3 (zat rfl)]; exact h) (zdd.cons (fun vs vs' W W' _ hv l hd h => by (show (vs' 4) = vI e); rw [hv 4 (zat rfl)]; exact h) (zdd.cons (fun vs vs' W W' _ hv l hd h => by (show (vs' 5) = ptr ((slA f).add ((e).toNat * Rp.sz (Commit)))); rw [hv 5 (zat rfl)]; exact h) (zdd.cons (fun vs vs' W W' _ hv l hd h => by (show (vs' 6) = ptr (((slA f).add ((e).toNat * Rp.sz (Commit))).add 1)); rw [hv 6 (zat rfl)]; exact h) (zdd.cons (fun vs vs' W W' _ hv l hd h => by (show (vs' 7) = vS O.Who); rw [hv 7 (zat rfl)]; exact h) (zdd.cons (fun vs vs' W W' _ hv l hd h => by (show (vs' 8) = vI e); rw [hv 8 (zat rfl)]; exact h) (zdd.cons (fun vs vs' W W' _ hv l hd h => by (show (vs' 9) = .tuple [.agg [(zaq (zaq (vs' 9) 0) 0), (zaq (zaq (vs' 9) 0) 1)].toArray, vI a.2].toArray ∧ Ow W' 15 [] [(zaq (zaq (vs' 9) 0) 0)] a.1.Commits ∧ Ow W' 16 [] [(zaq (zaq (vs' 9) 0) 1)] a.1.Heads); rw [hv 9 (zat rfl)]; exact ⟨h.1, h.2.1.upv l (zbJ hd (c := 15) rfl), h.2.2.upv l (zbJ hd (c := 16) rfl)⟩) (zdd.cons (fun vs vs' W W' _ hv l hd h => by (show (vs' 10) = .tuple [.agg [(zaq (zaq (vs' 9) 0) 0), (zaq (zaq (vs' 9) 0) 1)].toArray, vI a.2].toArray); rw [hv 9 (zat rfl), hv 10 (zat rfl)]; exact h) (zdd.cons (fun vs vs' W W' _ hv l hd h => by (show (vs' 11) = .agg [(zaq (zaq (vs' 9) 0) 0), (zaq (zaq (vs' 9) 0) 1)].toArray); rw [hv 9 (zat rfl), hv 11 (zat rfl)]; exact h) (zdd.cons (fun vs vs' W W' _ hv l hd h => by (show (vs' 12) = vI a.2); rw [hv 12 (zat rfl)]; exact h) (zdd.cons (fun vs vs' W W' _ hv l hd h => by (show (vs' 13) = ptr (bx (pg (vs' 13))) ∧ Bx W' 17 (pg (vs' 13)) [.slice none 0 0, .slice none 0 0]); rw [hv 13 (zat rfl)]; exact ⟨h.1, h.2.up l (zbJ hd (c := 17) rfl)⟩) (zdd.cons (fun vs vs' W W' _ hv l hd h => by (show (vs' 13) = ptr (bx (pg (vs' 13))) ∧ Bx W' 17 (pg (vs' 13)) [(zaq (zaq (vs' 9) 0) 0), (zaq (zaq (vs' 9) 0) 1)]); rw [hv 9 (zat rfl), hv 13 (zat rfl)]; exact ⟨h.1, h.2.up l (zbJ hd (c := 17) rfl)⟩) (zdd.cons (fun vs vs' W W' _ hv l hd h => by (show (vs' 15) = vI a.2); rw [hv 15 (zat rfl)]; exact h) zdd.nil)))))))))))))))), ?_⟩
       ·intro vs W lW hN hV
        obtain ⟨e9, fb⟩ : ∃ X, X = W := ⟨W, rfl⟩
        subst fb
        refine Tr.mono (Run.tr (R.lda (cs := [i, k]) ((aq.up A).up lW rfl).cells rfl rfl)) ?_
        rintro _ _ ⟨hu, rfl⟩
        obtain rfl := hu.symm
        exact ⟨e9, rfl, Le.refl _ _, (show (.agg [i, k].toArray : Value) = .agg [i, k].toArray from rfl)⟩
       ·intro vs W lW hN hV
        obtain ⟨fc, fd⟩ : ∃ X, X = W := ⟨W, rfl⟩
        subst fd
        refine Tr.mono (Run.tr (R.mv (v := vS x1) rfl)) ?_
        rintro _ _ ⟨hu, rfl⟩
        obtain rfl := hu.symm
        exact ⟨fc, rfl, Le.refl _ _, (show (vS x1 : Value) = vS x1 from rfl)⟩
       ·intro vs W lW hN hV
        obtain ⟨fe, ff⟩ : ∃ X, X = W := ⟨W, rfl⟩
        subst ff
        refine Tr.mono (Run.tr (R.fa rfl)) ?_
        rintro _ _ ⟨hu, rfl⟩
        obtain rfl := hu.symm
        exact ⟨fe, rfl, Le.refl _ _, (show (ptr ((bx G).add 0) : Value) = ptr ((bx G).add 0) from rfl)⟩
       ·intro vs W lW hN hV
        obtain ⟨fg, fh⟩ : ∃ X, X = W := ⟨W, rfl⟩
        subst fh
        have bw : vs 2 = ptr ((bx G).add 0) := (hN 2 (zat rfl))
        obtain ⟨vs, rfl⟩ := zao bw
        refine Tr.mono (Run.tr (R.ld (v := f) rfl rfl (((bq.up A).up lW rfl).cell rfl))) ?_
        rintro _ _ ⟨hu, rfl⟩
        obtain rfl := hu.symm
        exact ⟨fg, rfl, Le.refl _ _, (show (f : Value) = f from rfl)⟩
       ·intro vs W lW hN hV
        obtain ⟨fi, fj⟩ : ∃ X, X = W := ⟨W, rfl⟩
        subst fj
        refine Tr.mono (Run.tr (R.mv (v := vI e) rfl)) ?_
        rintro _ _ ⟨hu, rfl⟩
        obtain rfl := hu.symm
        exact ⟨fi, rfl, Le.refl _ _, (show (vI e : Value) = vI e from rfl)⟩
       ·intro vs W lW hN hV
        obtain ⟨fm, fn⟩ : ∃ X, X = W := ⟨W, rfl⟩
        subst fn
        have fo := a5.t lW rfl
        have bz : vs 3 = f := (hN 3 (zat rfl))
        obtain ⟨vs, rfl⟩ := zao bz
        have b0 : vs 4 = vI e := (hN 4 (zat rfl))
        obtain ⟨vs, rfl⟩ := zao b0
        refine Tr.mono (Run.tr (R.ix (α := Commit) (y.ul fo) dp rfl rfl rfl)) ?_
        rintro _ _ ⟨hu, rfl⟩
        obtain rfl := hu.symm
        exact ⟨fm, rfl, Le.refl _ _, (show (ptr ((slA f).add ((e).toNat * Rp.sz (Commit))) : Value) = ptr ((slA f).add ((e).toNat * Rp.sz (Commit))) from rfl)⟩
       ·intro vs W lW hN hV
        obtain ⟨fp, fq⟩ : ∃ X, X = W := ⟨W, rfl⟩
        subst fq
        have b2 : vs 5 = ptr ((slA f).add ((e).toNat * Rp.sz (Commit))) := (hN 5 (zat rfl))
        obtain ⟨vs, rfl⟩ := zao b2
        refine Tr.mono (Run.tr (R.fa rfl)) ?_
        rintro _ _ ⟨hu, rfl⟩
        obtain rfl := hu.symm
        exact ⟨fp, rfl, Le.refl _ _, (show (ptr (((slA f).add ((e).toNat * Rp.sz (Commit))).add 1) : Value) = ptr (((slA f).add ((e).toNat * Rp.sz (Commit))).add 1) from rfl)⟩
       ·intro vs W lW hN hV
        obtain ⟨fr, fs⟩ : ∃ X, X = W := ⟨W, rfl⟩
        subst fs
        have ft := a5.t lW rfl
        have b4 : vs 6 = ptr (((slA f).add ((e).toNat * Rp.sz (Commit))).add 1) := (hN 6 (zat rfl))
        obtain ⟨vs, rfl⟩ := zao b4
        refine Tr.mono (Run.tr (R.ld rfl rfl (Commit.at1 ((y.ul ft).at_ dp)).str)) ?_
        rintro _ _ ⟨hu, rfl⟩
        obtain rfl := hu.symm
        exact ⟨fr, rfl, Le.refl _ _, (show (vS O.Who : Value) = vS O.Who from rfl)⟩
       ·intro vs W lW hN hV
        obtain ⟨fu, fv⟩ : ∃ X, X = W := ⟨W, rfl⟩
        subst fv
        refine Tr.mono (Run.tr (R.mv (v := vI e) rfl)) ?_
        rintro _ _ ⟨hu, rfl⟩
        obtain rfl := hu.symm
        exact ⟨fu, rfl, Le.refl _ _, (show (vI e : Value) = vI e from rfl)⟩
       ·intro vs W lW hN hV
        obtain ⟨ic, fw⟩ : ∃ X, X = W := ⟨W, rfl⟩
        subst fw
        have fx := a5.t lW rfl
        have b5 : vs 0 = .agg [i, k].toArray := (hN 0 (zat rfl))
        obtain ⟨vs, rfl⟩ := zao b5
        have b6 : vs 1 = vS x1 := (hN 1 (zat rfl))
        obtain ⟨vs, rfl⟩ := zao b6
        have b7 : vs 7 = vS O.Who := (hN 7 (zat rfl))
        obtain ⟨vs, rfl⟩ := zao b7
        have b8 : vs 8 = vI e := (hN 8 (zat rfl))
        obtain ⟨vs, rfl⟩ := zao b8
        refine Tr.mono (T.call rfl (p70 (K := [0, 8, 9]) (k0 := 15) (k1 := 16) (x0 := (Vm.Repo.mk L N)) ((Repo.rd (K := [8, 9]) L N (((ao.up A).up lW rfl).rd.sub (M := [8, 9]) rfl) (((ap.up A).up lW rfl).rd.sub (M := [8, 9]) rfl)).sub (M := [0, 8, 9]) rfl) ((cx.ul fx).sub (M := [0, 8, 9]) rfl) e8)) ?_
        rintro _ _ ⟨b9, rfl, fy, ⟨cb, cc, rfl, fz, f0⟩⟩
        exact ⟨b9, rfl, fy, (show (.tuple [.agg [cb, cc].toArray, vI a.2].toArray : Value) = .tuple [.agg [cb, cc].toArray, vI a.2].toArray ∧ Ow b9 15 [] [cb] a.1.Commits ∧ Ow b9 16 [] [cc] a.1.Heads from ⟨rfl, fz, f0⟩)⟩
       ·intro vs W lW hN hV
        obtain ⟨cd, f1⟩ : ∃ X, X = W := ⟨W, rfl⟩
        subst f1
        obtain ⟨b, d, D⟩ : ∃ b d : Value, vs 9 = .tuple [.agg [b, d].toArray, vI a.2].toArray := ⟨_, _, (hN 9 (zat rfl)).1⟩
        obtain ⟨vs, rfl⟩ := zao D
        have id : Ow cd 15 [] [b] a.1.Commits := (hN 9 (zat rfl)).2.1
        have ie : Ow cd 16 [] [d] a.1.Heads := (hN 9 (zat rfl)).2.2
        refine Tr.mono (Run.tr (R.mv (v := .tuple [.agg [b, d].toArray, vI a.2].toArray) rfl)) ?_
        rintro _ _ ⟨hu, rfl⟩
        obtain rfl := hu.symm
        exact ⟨cd, rfl, Le.refl _ _, (show (.tuple [.agg [b, d].toArray, vI a.2].toArray : Value) = .tuple [.agg [b, d].toArray, vI a.2].toArray from rfl)⟩
       ·intro vs W lW hN hV
        obtain ⟨ce, f2⟩ : ∃ X, X = W := ⟨W, rfl⟩
        subst f2
        obtain ⟨b, d, D⟩ : ∃ b d : Value, vs 9 = .tuple [.agg [b, d].toArray, vI a.2].toArray := ⟨_, _, (hN 9 (zat rfl)).1⟩
        obtain ⟨vs, rfl⟩ := zao D
        have ig : Ow ce 15 [] [b] a.1.Commits := (hN 9 (zat rfl)).2.1
        have ih : Ow ce 16 [] [d] a.1.Heads := (hN 9 (zat rfl)).2.2
        have af : vs 10 = .tuple [.agg [b, d].toArray, vI a.2].toArray := (hN 10 (zat rfl))
        obtain ⟨vs, rfl⟩ := zao af
        refine Tr.mono (Run.tr (R.ext (vs := [.agg [b, d].toArray, vI a.2]) (v := .agg [b, d].toArray) rfl rfl)) ?_
        rintro _ _ ⟨hu, rfl⟩
        obtain rfl := hu.symm
        exact ⟨ce, rfl, Le.refl _ _, (show (.agg [b, d].toArray : Value) = .agg [b, d].toArray from rfl)⟩
       ·intro vs W lW hN hV
        obtain ⟨cf, f3⟩ : ∃ X, X = W := ⟨W, rfl⟩
        subst f3
        obtain ⟨b, d, D⟩ : ∃ b d : Value, vs 9 = .tuple [.agg [b, d].toArray, vI a.2].toArray := ⟨_, _, (hN 9 (zat rfl)).1⟩
        obtain ⟨vs, rfl⟩ := zao D
        have ii : Ow cf 15 [] [b] a.1.Commits := (hN 9 (zat rfl)).2.1
        have ij : Ow cf 16 [] [d] a.1.Heads := (hN 9 (zat rfl)).2.2
        have af : vs 10 = .tuple [.agg [b, d].toArray, vI a.2].toArray := (hN 10 (zat rfl))
        obtain ⟨vs, rfl⟩ := zao af
        refine Tr.mono (Run.tr (R.ext (vs := [.agg [b, d].toArray, vI a.2]) (v := vI a.2) rfl rfl)) ?_
        rintro _ _ ⟨hu, rfl⟩
        obtain rfl := hu.symm
        exact ⟨cf, rfl, Le.refl _ _, (show (vI a.2 : Value) = vI a.2 from rfl)⟩
       ·intro vs W lW hN hV
        obtain ⟨ik, f4⟩ : ∃ X, X = W := ⟨W, rfl⟩
        subst f4
        refine Tr.mono (T.alloc 17 (cs := [.slice none 0 0, .slice none 0 0]) rfl) ?_
        rintro _ _ ⟨cg, dq, rfl, rfl, f5, f6⟩
        exact ⟨dq, rfl, f5, (show (ptr (bx cg) : Value) = ptr (bx cg) ∧ Bx dq 17 cg [.slice none 0 0, .slice none 0 0] from ⟨rfl, f6⟩)⟩
       ·intro vs W lW hN hV
        obtain ⟨ch, f7⟩ : ∃ X, X = W := ⟨W, rfl⟩
        subst f7
        obtain ⟨b, d, D⟩ : ∃ b d : Value, vs 9 = .tuple [.agg [b, d].toArray, vI a.2].toArray := ⟨_, _, (hN 9 (zat rfl)).1⟩
        obtain ⟨vs, rfl⟩ := zao D
        have f8 : Ow ch 15 [] [b] a.1.Commits := (hN 9 (zat rfl)).2.1
        have f9 : Ow ch 16 [] [d] a.1.Heads := (hN 9 (zat rfl)).2.2
        have ci : vs 11 = .agg [b, d].toArray := (hN 11 (zat rfl))
        obtain ⟨vs, rfl⟩ := zao ci
        obtain ⟨B, cj⟩ : ∃ B, vs 13 = ptr (bx B) := ⟨_, ((hN 13 (zat rfl))).1⟩
        obtain ⟨vs, rfl⟩ := zao cj
        have ga : Bx ch 17 B [.slice none 0 0, .slice none 0 0] := (hN 13 (zat rfl)).2
        refine Tr.mono (T.sta (vs := [b, d]) ga rfl rfl (zaa f8.oc (zaa f9.oc zaR)) rfl rfl) ?_
        rintro _ _ ⟨dr, rfl, gb, gc⟩
        exact ⟨dr, rfl, gb, (show (ptr (bx B)) = ptr (bx B) ∧ Bx dr 17 B [b, d] from ⟨rfl, gc⟩)⟩
       ·intro vs W lW hN hV
        obtain ⟨gd, gf⟩ : ∃ X, X = W := ⟨W, rfl⟩
        subst gf
        have ck : vs 12 = vI a.2 := (hN 12 (zat rfl))
        obtain ⟨vs, rfl⟩ := zao ck
        refine Tr.mono (Run.tr (R.as (v := vI a.2) rfl)) ?_
        rintro _ _ ⟨hu, rfl⟩
        obtain rfl := hu.symm
        exact ⟨gd, rfl, Le.refl _ _, (show (vI a.2 : Value) = vI a.2 from rfl)⟩
       ·intro vs W lW hN
        obtain ⟨cl, gg⟩ : ∃ X, X = W := ⟨W, rfl⟩
        subst gg
        have cm := a5.t lW rfl
        have ds := (bp.up A).up lW rfl
        obtain ⟨gh, hl450⟩ : ∃ x, x = lW := ⟨lW, rfl⟩
        have b5 : vs 0 = .agg [i, k].toArray := (hN 0 (zat rfl))
        obtain ⟨vs, rfl⟩ := zao b5
        have b6 : vs 1 = vS x1 := (hN 1 (zat rfl))
        obtain ⟨vs, rfl⟩ := zao b6
        have bw : vs 2 = ptr ((bx G).add 0) := (hN 2 (zat rfl))
        obtain ⟨vs, rfl⟩ := zao bw
        have bz : vs 3 = f := (hN 3 (zat rfl))
        obtain ⟨vs, rfl⟩ := zao bz
        have b0 : vs 4 = vI e := (hN 4 (zat rfl))
        obtain ⟨vs, rfl⟩ := zao b0
        have b2 : vs 5 = ptr ((slA f).add ((e).toNat * Rp.sz (Commit))) := (hN 5 (zat rfl))
        obtain ⟨vs, rfl⟩ := zao b2
        have b4 : vs 6 = ptr (((slA f).add ((e).toNat * Rp.sz (Commit))).add 1) := (hN 6 (zat rfl))
        obtain ⟨vs, rfl⟩ := zao b4
        have b7 : vs 7 = vS O.Who := (hN 7 (zat rfl))
        obtain ⟨vs, rfl⟩ := zao b7
        have b8 : vs 8 = vI e := (hN 8 (zat rfl))
        obtain ⟨vs, rfl⟩ := zao b8
        obtain ⟨b, d, D⟩ : ∃ b d : Value, vs 9 = .tuple [.agg [b, d].toArray, vI a.2].toArray := ⟨_, _, (hN 9 (zat rfl)).1⟩
        obtain ⟨vs, rfl⟩ := zao D
        have dt : Ow cl 15 [] [b] a.1.Commits := (hN 9 (zat rfl)).2.1
        have du : Ow cl 16 [] [d] a.1.Heads := (hN 9 (zat rfl)).2.2
        have af : vs 10 = .tuple [.agg [b, d].toArray, vI a.2].toArray := (hN 10 (zat rfl))
        obtain ⟨vs, rfl⟩ := zao af
        have ci : vs 11 = .agg [b, d].toArray := (hN 11 (zat rfl))
        obtain ⟨vs, rfl⟩ := zao ci
        have ck : vs 12 = vI a.2 := (hN 12 (zat rfl))
        obtain ⟨vs, rfl⟩ := zao ck
        obtain ⟨B, cj⟩ : ∃ B, vs 13 = ptr (bx B) := ⟨_, (hN 14 (zat rfl)).1⟩
        obtain ⟨vs, rfl⟩ := zao cj
        have gj : Bx cl 17 B [b, d] := (hN 14 (zat rfl)).2
        have gk : vs 15 = vI a.2 := (hN 15 (zat rfl))
        obtain ⟨vs, rfl⟩ := zao gk
        refine ssr (mi rfl (Lw.ne rfl (nl (cn hm (fun hm => ?_) fun hm => ?_))))
        ·refine sr (la ((bq.up A).up lW rfl) (cr hm (fun _ => p67 (k0 := 18) (k1 := 19) (Repo.rd (K := [0]) x0.Commits x0.Heads (y.ul cm) (E.ul cm))) ?_))
         rintro il _ im hm dv ⟨gm, gn, rfl, dw, dx⟩
         have go := cm.n dv
         refine mi rfl (sta (ds.up dv) (zaa dw.oc (zaa dx.oc zaR)) fun io co gr => ?_)
         have gs := go.t co
         refine Ni rfl ?_
         obtain ⟨ip, gu, cp, gv⟩ := (dw.up co).dyeO 31
         have gw := gs.t cp
         obtain ⟨iq, gx, cq, gy⟩ := ((dx.up co).up cp).dyeO 32
         have gz := gw.t cq
         cases hm
         rw [← gx.trans (gu)]
         exact Cw.ret (zjH rfl ((gr.up cp).up cq) rfl (Res.mk gz ⟨gm, gn, rfl, (gv.up cq).s, gy.s⟩))
        ·refine sk (rg (Lw.r rfl (R.lda (cs := [b, d]) gj.cells rfl rfl) (sta ((aq.up A).up lW rfl) (zaa dt.oc (zaa du.oc zaR)) fun ir P g0 => nl ?_)))
         obtain ⟨it, g2, Q, g4⟩ := (dt.up P).dyeO 8
         obtain ⟨g5, g6, S, g7⟩ := ((du.up P).up Q).dyeO 9
         exact (ag) ⟨V, Y, Z, a.1.Commits, a.1.Heads, vI e, ptr (bx B), vI a.2, aa, ac, b, d, g5, g6.trans (g2), ((((A.j gh).j P).j Q).j S).w, rfl, (((((dk.up A).up lW rfl).up P).up Q).up S), (((((dl.up A).up lW rfl).up P).up Q).up S), (((ds.up P).up Q).up S), (g4.up S), g7, ((g0.up Q).up S), hm⟩
    ·refine Cw.exit ?_
     rw [ex] at hm
     refine sr (la aq (sta bp (zaa ao.oc (zaa ap.oc zaR)) fun iu ct g8 => ?_))
     have g9 := ar.t ct
     refine Ni rfl ?_
     obtain ⟨iv, ha, cu, hb⟩ := (ao.up ct).dyeO 31
     have hc := g9.t cu
     obtain ⟨iw, he, cv, hf⟩ := ((ap.up ct).up cu).dyeO 32
     have hg := hc.t cv
     cases hm
     rw [← he.trans (ha)]
     exact Cw.ret (zjH rfl ((g8.up cu).up cv) rfl (Res.mk hg ⟨i, k, rfl, (hb.up cv).s, hf.s⟩))
  ·refine rg (mi rfl (Lw.lt rfl (mb rfl (bs hm (fun ah hm => ?_) fun ah hm => ?_))))
   ·exact psk 4 ah rfl (Pb ah rfl (nl ((ag) ⟨true, c6, rfl, Le.refl _ _, rfl, hm⟩)))
   ·exact wak 4 ah (la (a7.up am) (mi rfl (ca hm (fun _ => p66 (Repo.rd (K := [0]) x0.Commits x0.Heads (y.ul a8) (E.ul a8))) fun hh hi hm hj => Lw.r rfl (R.not rfl) (Pb ah rfl (nl ((ag) ⟨(!hh), hi, rfl, hj, rfl, hm⟩))))))
theorem p14 {x0 d f x1 x2 k0 k1 r} (h : Rd W K [d, f] x0) (i : Gl 0 W K) (hm : Vm.zeT x0 x1 x2 = some r) : Q1 14 [.agg [d, f].toArray, vS x1, vI x2] W [] fun W' v => ∃ a b, v = .tuple [.agg [a, b].toArray, vI r.2].toArray ∧ Ow W' k0 [] [a] r.1.Commits ∧ Ow W' k1 [] [b] r.1.Heads :=
 zaj.adJ (J := []) (fun c => bif Nat.beq c 0 then 0 else bif Nat.beq c 31 then k0 else bif Nat.beq c 32 then k1 else 0) (c14 (h.view _) (i.view _) hm) fun _ _ ⟨a, b, e, k, x⟩ => ⟨a, b, e, k.one1.backN rfl, x.one1.backN rfl⟩
theorem c134 {x0 a x1 r} (y : Rd W0 [0] [a] x0) (hm : Vm.zhr x0 x1 = some r) : Q0 134 [a, vI x1] W0 fun Wf v => v = vI r := by
 unfold Vm.zhr at hm
 refine zaj.of Tryz.func134 rfl rfl rfl rfl (sr (Ni rfl (ssr (Ni rfl (Cw.block ?_)))))
 obtain ⟨z, A, hm⟩ := zaS hm
 refine Cw.loop 6 19 [1, 4, 5] (fun m l w => ∃ b d e f, CW.w f = w ∧ Le [] W0 f ∧ l = [vI b, vI d, vI e] ∧ Vm.zeJ x0 z m b d e = some r) _ ⟨x1, 0, 0, W0, rfl, Le.refl _ _, rfl, hm⟩ ?_
 rintro (_ | B) _ _ σ ⟨b, d, e, f, rfl, k, rfl, hm⟩
 ·cases hm
 unfold Vm.zeJ at hm
 have h := k.o
 refine ssr ?_
 have i := y.ul h
 refine mi rfl (mv a rfl (Lw.ln x0 i rfl (Lw.lt rfl (nl (cn hm (fun hm => ?_) fun hm => ?_)))))
 ·refine sk (Cw.seq (Cw.block (ssr (mv a rfl (mi rfl ?_)))))
  obtain ⟨C, x, hm⟩ := ob hm
  refine Lw.r rfl (R.ix (α := Int) i x rfl rfl rfl) (Lw.r rfl (R.ld rfl rfl (i.at_ x).int) (mi rfl (Lw.ne rfl (nl (cn hm (fun hm => ?_) fun hm => ?_)))))
  ·exact sr (Ni rfl (.ret (rt hm h)))
  ·exact sk (rg (mi rfl (Lw.add rfl (Ni rfl (rg (mi rfl (Lw.add rfl (Ni rfl ((agm) ⟨w64 (b + 1), d, w64 (e + 1), f, rfl, k, rfl, hm⟩)))))))))
 ·refine Cw.exit ?_
  rw [A] at hm
  exact sr (mi rfl (Ni rfl (.ret (rt hm h))))
theorem p134 {x0 a x1 r} (b : Rd W K [a] x0) (hm : Vm.zhr x0 x1 = some r) : Q1 134 [a, vI x1] W [] fun W' v => v = vI r :=
 (c134 (b.view _) hm).ad (fk 0) fun _ _ e => e
theorem c135 {x0 b x1 r} (a : Rd W0 [0] [b] x0) (hm : Vm.zgA x0 x1 = some r) : Q0 135 [b, vI x1] W0 fun Wf v => v = vI r := by
 unfold Vm.zgA at hm
 refine zaj.of Tryz.func135 rfl rfl rfl rfl (sr (Ni rfl (ssr (Ni rfl (Cw.block ?_)))))
 obtain ⟨D, E, hm⟩ := zaS hm
 refine Cw.loop 6 30 [1, 4, 5] (fun m l w => ∃ i d e k, CW.w k = w ∧ Le [] W0 k ∧ l = [vI i, vI d, vI e] ∧ Vm.zea x0 D m i d e = some r) _ ⟨x1, 0, 0, W0, rfl, Le.refl _ _, rfl, hm⟩ ?_
 rintro (_ | J) _ _ σ ⟨i, d, e, k, rfl, A, rfl, hm⟩
 ·cases hm
 unfold Vm.zea at hm
 have x := A.o
 refine ssr (mi rfl (mv b rfl (Lw.ln x0 (a.ul x) rfl (Lw.lt rfl (nl (cn hm (fun hm => ?_) fun hm => ?_))))))
 ·refine sk (Cw.seq (Cw.block (Cw.seq (Cw.seq (Cw.draw [] [(0, 0), (1, 0), (2, 0), (3, 0), (4, 1), (5, 0), (6, 2), (7, 0)] mixed (by kernel_rfl) fun K l10 => ?_)))))
  have f := x.n l10
  refine Dv b rfl (Di rfl ?_)
  obtain ⟨L, y, hm⟩ := ob hm
  refine Mw.p rfl rfl (fun _ => R.ix (α := File) (a.ul f) y rfl rfl rfl) (Df rfl (Mw.q rfl rfl (fun _ c => R.ld rfl rfl (zah (File.at0 ((a.ul f).at_ y)).1 rfl (File.at0 ((a.ul f).at_ y)).str c)) (Di rfl ?_)))
  obtain ⟨M, F, hm⟩ := ob hm
  refine Mw.t rfl rfl (T.call rfl (p105   F)) ?_
  rintro _ _ ⟨N, rfl, z, rfl⟩
  have h := f.n z
  refine m0 z fun O => Mw.p rfl rfl (fun _ => R.sne rfl rfl) (Mw.nil (cn hm (fun hm => ?_) fun hm => ?_))
  ·exact sr (Ni rfl (.ret (rt hm h)))
  ·refine sk (sr (mi rfl (Lw.add rfl (Ni rfl (sr (mv b rfl (mi rfl ?_)))))))
   obtain ⟨P, B, hm⟩ := ob hm
   refine Lw.r rfl (R.ix (α := File) (a.ul h) B rfl rfl rfl) (Lw.fa rfl ?_)
   obtain ⟨Q, c24, r25⟩ := (File.at1 ((a.ul h).at_ B)).cell rfl
   refine Lw.r rfl (R.ld rfl rfl c24) (mi rfl (ca hm (fun _ => p37 r25) fun G H hm C => ?_))
   have I := h.n C
   refine Ni rfl (sr (mi rfl (Lw.lt rfl (nl (cn hm (fun hm => ?_) fun hm => ?_)))))
   ·exact sr (Ni rfl (.ret (rt hm I)))
   ·exact sk (rg (mi rfl (Lw.add rfl (Ni rfl ((agm) ⟨G, d, w64 (e + 1), H, rfl, (((A.j l10).j z).j C).w, rfl, hm⟩)))))
 ·refine Cw.exit ?_
  rw [E] at hm
  exact sr (mi rfl (Ni rfl (.ret (rt hm x))))
theorem p135 {x0 a x1 r} (b : Rd W K [a] x0) (hm : Vm.zgA x0 x1 = some r) : Q1 135 [a, vI x1] W [] fun W' v => v = vI r :=
 (c135 (b.view _) hm).ad (fk 0) fun _ _ e => e
theorem c75 {x0 a x1 r} (b : Rd W0 [0] [a] x0) (hm : Vm.zfq x0 x1 = some r) : Q0 75 [a, vI x1] W0 fun Wf v => v = vI r := by
 unfold Vm.zfq at hm
 refine zaj.of Tryz.func75 rfl rfl rfl rfl (sr (Ni rfl (ssr (Ni rfl (Cw.block ?_)))))
 obtain ⟨I, J, hm⟩ := zaS hm
 refine Cw.loop 6 39 [1, 4, 5] (fun m l w => ∃ i d e k, CW.w k = w ∧ Le [] W0 k ∧ l = [vI i, vI d, vI e] ∧ Vm.zdk x0 I m i d e = some r) _ ⟨x1, 0, 0, W0, rfl, Le.refl _ _, rfl, hm⟩ ?_
 rintro (_ | O) _ _ σ ⟨i, d, e, k, rfl, B, rfl, hm⟩
 ·cases hm
 unfold Vm.zdk at hm
 have x := B.o
 refine ssr ?_
 have y := b.ul x
 refine mi rfl (mv a rfl (Lw.ln x0 y rfl (Lw.lt rfl (nl (cn hm (fun hm => ?_) fun hm => ?_)))))
 ·refine sk (Cw.seq (Cw.block (sr (mv a rfl (mi rfl ?_)))))
  obtain ⟨P, C, hm⟩ := ob hm
  refine Lw.r rfl (R.ix (α := Commit) y C rfl rfl rfl) (Lw.fa rfl ?_)
  obtain ⟨Q, c13, r14⟩ := (Commit.at0 (y.at_ C)).cell rfl
  refine Lw.r rfl (R.ld rfl rfl c13) (mi rfl (ca hm (fun _ => p134 r14) fun S U hm D => ?_))
  have E := x.n D
  refine Ni rfl (ssr (mi rfl (Lw.lt rfl (nl (cn hm (fun hm => ?_) fun hm => ?_)))))
  ·exact sr (Ni rfl (.ret (rt hm E)))
  ·refine sk (Cw.seq (Cw.seq (Cw.draw [] [(0, 0), (1, 0), (2, 0), (3, 0), (4, 1), (5, 0), (6, 2), (7, 0)] mixed (by kernel_rfl) fun V F => ?_)))
   have f := E.n F
   refine Dv a rfl (Di rfl ?_)
   obtain ⟨W, z, hm⟩ := ob hm
   refine Mw.p rfl rfl (fun _ => R.ix (α := Commit) (b.ul f) z rfl rfl rfl) (Df rfl (Mw.q rfl rfl (fun _ c => R.ld rfl rfl (zah (Commit.at1 ((b.ul f).at_ z)).1 rfl (Commit.at1 ((b.ul f).at_ z)).str c)) (Di rfl ?_)))
   obtain ⟨X, K, hm⟩ := ob hm
   refine Mw.t rfl rfl (T.call rfl (p105   K)) ?_
   rintro _ _ ⟨Y, rfl, A, rfl⟩
   have h := f.n A
   refine m0 A fun Z => Mw.p rfl rfl (fun _ => R.sne rfl rfl) (Mw.nil (cn hm (fun hm => ?_) fun hm => ?_))
   ·exact sr (Ni rfl (.ret (rt hm h)))
   ·refine sk (sr (mi rfl (Lw.add rfl (Ni rfl (sr (mv a rfl (mi rfl ?_)))))))
    obtain ⟨aa, G, hm⟩ := ob hm
    refine Lw.r rfl (R.ix (α := Commit) (b.ul h) G rfl rfl rfl) (Lw.fa rfl ?_)
    obtain ⟨ac, c34, r35⟩ := (Commit.at2 ((b.ul h).at_ G)).cell rfl
    refine Lw.r rfl (R.ld rfl rfl c34) (mi rfl (ca hm (fun _ => p135 r35) fun L M hm H => ?_))
    have N := h.n H
    refine Ni rfl (sr (mi rfl (Lw.lt rfl (nl (cn hm (fun hm => ?_) fun hm => ?_)))))
    ·exact sr (Ni rfl (.ret (rt hm N)))
    ·exact sk (rg (mi rfl (Lw.add rfl (Ni rfl ((agm) ⟨L, d, w64 (e + 1), M, rfl, ((((B.j D).j F).j A).j H).w, rfl, hm⟩)))))
 ·refine Cw.exit ?_
  rw [J] at hm
  exact sr (mi rfl (Ni rfl (.ret (rt hm x))))
theorem p75 {x0 a x1 r} (b : Rd W K [a] x0) (hm : Vm.zfq x0 x1 = some r) : Q1 75 [a, vI x1] W [] fun W' v => v = vI r :=
 (c75 (b.view _) hm).ad (fk 0) fun _ _ e => e
theorem c76 {x0 b x1 r} (a : Rd W0 [0] [b] x0) (hm : Vm.zgB x0 x1 = some r) : Q0 76 [b, vI x1] W0 fun Wf v => v = vI r := by
 unfold Vm.zgB at hm
 refine zaj.of Tryz.func76 rfl rfl rfl rfl (sr (Ni rfl (ssr (Ni rfl (Cw.block ?_)))))
 obtain ⟨C, D, hm⟩ := zaS hm
 refine Cw.loop 6 30 [1, 4, 5] (fun m l w => ∃ d e f k, CW.w k = w ∧ Le [] W0 k ∧ l = [vI d, vI e, vI f] ∧ Vm.zeb x0 C m d e f = some r) _ ⟨x1, 0, 0, W0, rfl, Le.refl _ _, rfl, hm⟩ ?_
 rintro (_ | G) _ _ σ ⟨d, e, f, k, rfl, A, rfl, hm⟩
 ·cases hm
 unfold Vm.zeb at hm
 have x := A.o
 refine ssr (mi rfl (mv b rfl (Lw.ln x0 (a.ul x) rfl (Lw.lt rfl (nl (cn hm (fun hm => ?_) fun hm => ?_))))))
 ·refine sk (Cw.seq (Cw.block (Cw.seq (Cw.seq (Cw.draw [] [(0, 0), (1, 0), (2, 0), (3, 0), (4, 1), (5, 0), (6, 2), (7, 0)] mixed (by kernel_rfl) fun H l10 => ?_)))))
  have h := x.n l10
  refine Dv b rfl (Di rfl ?_)
  obtain ⟨I, y, hm⟩ := ob hm
  refine Mw.p rfl rfl (fun _ => R.ix (α := Head) (a.ul h) y rfl rfl rfl) (Df rfl (Mw.q rfl rfl (fun _ c => R.ld rfl rfl (zah (Head.at0 ((a.ul h).at_ y)).1 rfl (Head.at0 ((a.ul h).at_ y)).str c)) (Di rfl ?_)))
  obtain ⟨J, E, hm⟩ := ob hm
  refine Mw.t rfl rfl (T.call rfl (p105   E)) ?_
  rintro _ _ ⟨F, rfl, z, rfl⟩
  have i := h.n z
  refine m0 z fun K => Mw.p rfl rfl (fun _ => R.sne rfl rfl) (Mw.nil (cn hm (fun hm => ?_) fun hm => ?_))
  ·exact sr (Ni rfl (.ret (rt hm i)))
  ·refine sk (sr (mi rfl (Lw.add rfl (Ni rfl (ssr (mv b rfl (mi rfl ?_)))))))
   obtain ⟨L, B, hm⟩ := ob hm
   refine Lw.r rfl (R.ix (α := Head) (a.ul i) B rfl rfl rfl) (Lw.fa rfl (Lw.r rfl (R.ld rfl rfl (Head.at1 ((a.ul i).at_ B)).int) (mi rfl (Lw.ne rfl (nl (cn hm (fun hm => ?_) fun hm => ?_))))))
   ·exact sr (Ni rfl (.ret (rt hm i)))
   ·exact sk (rg (mi rfl (Lw.add rfl (Ni rfl (rg (mi rfl (Lw.add rfl (Ni rfl ((agm) ⟨w64 ((w64 (d + 1)) + 1), e, w64 (f + 1), F, rfl, ((A.j l10).j z).w, rfl, hm⟩)))))))))
 ·refine Cw.exit ?_
  rw [D] at hm
  exact sr (mi rfl (Ni rfl (.ret (rt hm x))))
theorem p76 {x0 a x1 r} (b : Rd W K [a] x0) (hm : Vm.zgB x0 x1 = some r) : Q1 76 [a, vI x1] W [] fun W' v => v = vI r :=
 (c76 (b.view _) hm).ad (fk 0) fun _ _ e => e
theorem c17 {x0 b d x1 r} (x : Rd W0 [0] [b, d] x0) (hm : Vm.zgh x0 x1 = some r) : Q0 17 [.agg [b, d].toArray, vI x1] W0 fun Wf v => v = vI r := by
 unfold Vm.zgh at hm
 obtain ⟨C, D, e, y, z⟩ := Repo.split x
 simp only [List.cons.injEq, and_true, true_and] at e
 obtain ⟨rfl, rfl⟩ := e
 refine zaj.of Tryz.func17 rfl rfl rfl rfl (sr (bo 2 rfl fun E F A f => ?_))
 have h := A.o
 refine Ni rfl (sr (fl f rfl (mi rfl (ca hm (fun _ => p75 (y.ul h)) fun G H hm i => ?_))))
 have a := h.n i
 refine Ni rfl (ssr (mi rfl (Lw.lt rfl (nl (cn hm (fun hm => ?_) fun hm => ?_)))))
 ·exact sr (Ni rfl (.ret (rt hm a)))
 ·refine sk (sr (fl (f.up i) rfl (mi rfl (ca hm (fun _ => p76 (z.ul a)) fun I J hm B => ?_))))
  have k := a.n B
  refine Ni rfl (ssr (mi rfl (Lw.lt rfl (nl (cn hm (fun hm => ?_) fun hm => ?_)))))
  ·exact sr (Ni rfl (.ret (rt hm k)))
  ·exact sk (sr (mi rfl (Ni rfl (.ret (rt hm k)))))
theorem p17 {x0 a b x1 r} (d : Rd W K [a, b] x0) (hm : Vm.zgh x0 x1 = some r) : Q1 17 [.agg [a, b].toArray, vI x1] W [] fun W' v => v = vI r :=
 (c17 (d.view _) hm).ad (fk 0) fun _ _ e => e
theorem c3 {x0 ar au x1 x2 r} (h0 : Rd W0 [0] [ar, au] x0) (a8 : Gl 0 W0 [0]) (hm : Vm.zc1 x0 x1 x2 = some r) : Q0 3 [.agg [ar, au].toArray, vS x1, vI x2] W0 fun Wf v => v = vB r := by
 unfold Vm.zc1 at hm
 obtain ⟨d7, d8, ba, Q, S⟩ := Repo.split h0
 simp only [List.cons.injEq, and_true, true_and] at ba
 obtain ⟨rfl, rfl⟩ := ba
 refine zaj.of Tryz.func3 rfl rfl rfl rfl (sr (bo 2 rfl fun g1 W1 l1 b1 => ?_))
 have Z := l1.o
 refine Nb rfl (ssr (ms rfl (Lw.r rfl (R.lenS rfl) (Lw.gt rfl (nl (cn hm (fun hm => ?_) fun hm => ?_))))))
 ·exact sr (Nb rfl (.ret (rt hm Z)))
 ·refine sk (sr (Ni rfl (sr (la b1 (mi rfl (ca hm (fun _ => p11 (Repo.rd (K := [0]) x0.Commits x0.Heads (Q.ul Z) (S.ul Z))) fun z6 W8 hm l8 => ?_))))))
  have a9 := Z.n l8
  refine Ni rfl (ssr (mi rfl (Lw.lt rfl (nl (cn hm (fun hm => ?_) fun hm => ?_)))))
  ·exact sr (Nb rfl (.ret (rt hm a9)))
  ·refine sk (sr (la (b1.up l8) (cr hm (fun _ => p13 (k0 := 3) (k1 := 4) (Repo.rd (K := [0]) x0.Commits x0.Heads (Q.ul a9) (S.ul a9))) ?_)))
   rintro ac _ ed hm bb ⟨ee, ef, rfl, cq, ct⟩
   have cu := a9.n bb
   refine ms rfl (mi rfl (cr hm (fun _ => p12 (K := [3, 4]) (x0 := (Vm.Repo.mk ac.Commits ac.Heads)) (Repo.rd (K := [3, 4]) ac.Commits ac.Heads (cq.rd.sub (M := [3, 4]) rfl) (ct.rd.sub (M := [3, 4]) rfl))) ?_))
   rintro f _ eg hm bc ⟨ae, af, rfl, cv, cw⟩
   have ah := cv.sub (M := [0, 3, 4]) rfl
   have ai := cw.sub (M := [0, 3, 4]) rfl
   have cx := cu.n bc
   refine mv (.tuple [.agg [ae, af].toArray, vI f.2].toArray) rfl (Lw.r rfl (R.ext (vs := [.agg [ae, af].toArray, vI f.2]) (v := .agg [ae, af].toArray) rfl rfl) (Lw.r rfl (R.ext (vs := [.agg [ae, af].toArray, vI f.2]) (v := vI f.2) rfl rfl) (al 5 [.slice none 0 0, .slice none 0 0] fun eh ei H cy => ?_)))
   have cz := cx.n H
   refine sta cy (zaa ah.oc (zaa ai.oc zaR)) fun ej I c2 => ?_
   have ax := cz.t I
   have be := ((((b1.up l8).up bb).up bc).up H).up I
   refine Ni rfl (sr (la be (cr hm (fun _ => p13 (k0 := 6) (k1 := 7) (Repo.rd (K := [0]) x0.Commits x0.Heads (Q.ul ax) (S.ul ax))) ?_)))
   rintro B _ ek hm D ⟨c4, c5, rfl, bg, bh⟩
   have c6 := ax.n D
   refine al 8 [.slice none 0 0, .slice none 0 0] fun el em h c7 => ?_
   have c8 := c6.n h
   refine sta c7 (zaa (bg.up h).oc (zaa (bh.up h).oc zaR)) fun en z bi => ?_
   have bj := c8.t z
   have bk := (bg.up h).up z
   have bl := (bh.up h).up z
   refine nl (sr (la bi (ms rfl (mi rfl (cr hm (fun _ => p14 (K := [0, 6, 7]) (k0 := 9) (k1 := 10) (x0 := (Vm.Repo.mk B.Commits B.Heads)) ((Repo.rd (K := [6, 7]) B.Commits B.Heads (bk.rd.sub (M := [6, 7]) rfl) (bl.rd.sub (M := [6, 7]) rfl)).sub (M := [0, 6, 7]) rfl) ((a8.ul bj).sub (M := [0, 6, 7]) rfl)) ?_)))))
   rintro a _ eo hm y ⟨aj, ak, rfl, bm, bn⟩
   have c9 := bj.n y
   refine mv (.tuple [.agg [aj, ak].toArray, vI a.2].toArray) rfl (Lw.r rfl (R.ext (vs := [.agg [aj, ak].toArray, vI a.2]) (v := .agg [aj, ak].toArray) rfl rfl) (Lw.r rfl (R.ext (vs := [.agg [aj, ak].toArray, vI a.2]) (v := vI a.2) rfl rfl) (al 11 [.slice none 0 0, .slice none 0 0] fun ep er b da => ?_)))
   have db := c9.n b
   refine sta da (zaa (bm.up b).oc (zaa (bn.up b).oc zaR)) fun dc d bp => ?_
   have dd := db.t d
   have bq := (bm.up b).up d
   have br := (bn.up b).up d
   have bu := (((((c2.up D).up h).up z).up y).up b).up d
   refine Ni rfl (Cw.seq ?_)
   obtain ⟨de, df, hm⟩ := zaS hm
   refine Cw.join 43 51 [51] (fun l w => ∃ ay az, CW.w az = w ∧ Le [] dc az ∧ l = [vB ay] ∧ de ay = some r) ?_ ?_
   ·rintro _ _ σ ⟨ay, az, rfl, i, rfl, hm⟩
    rw [df] at hm
    have bv := dd.n i
    refine cn hm (fun hm => ?_) fun hm => ?_
    ·exact sr (Nb rfl (.ret (rt hm bv)))
    ·refine sk (Cw.seq (Cw.seq (Cw.draw [] [(0, 1), (1, 1), (2, 2), (3, 3), (4, 0)] mixed (by kernel_rfl) fun es k => ?_)))
     have a0 := bv.n k
     have bw := (((((((be.up D).up h).up z).up y).up b).up d).up i).up k
     have bz := ((((bi.up y).up b).up d).up i).up k
     refine Mw.q rfl rfl (fun _ c => R.lda (cs := [c4, c5]) (bz.clcs rfl c) rfl rfl) (Mw.q rfl rfl (fun _ c => R.lda (cs := [ar, au]) (bw.clcs rfl c) rfl rfl) ?_)
     obtain ⟨am, dg, hm⟩ := ob hm
     refine Mw.t rfl rfl (T.call rfl (p13 (k0 := 12) (k1 := 13) (Repo.rd (K := [0]) x0.Commits x0.Heads (Q.ul a0) (S.ul a0)) dg)) ?_
     rintro _ _ ⟨et, rfl, e, ⟨eu, ew, rfl, dh, di⟩⟩
     have dj := a0.n e
     have b0 := (((((bk.up y).up b).up d).up i).up k).up e
     have b2 := (((((bl.up y).up b).up d).up i).up k).up e
     refine m0 e fun ex => ?_
     obtain ⟨ey, dk, hm⟩ := ob hm
     refine Mw.l rfl rfl (T.call rfl (p15 (K := [6, 7, 12, 13])  (x0 := (Vm.Repo.mk B.Commits B.Heads)) (x1 := (Vm.Repo.mk am.Commits am.Heads)) ((Repo.rd (K := [6, 7]) B.Commits B.Heads (b0.rd.sub (M := [6, 7]) rfl) (b2.rd.sub (M := [6, 7]) rfl)).sub (M := [6, 7, 12, 13]) rfl) ((Repo.rd (K := [12, 13]) am.Commits am.Heads (dh.rd.sub (M := [12, 13]) rfl) (di.rd.sub (M := [12, 13]) rfl)).sub (M := [6, 7, 12, 13]) rfl) dk)) ?_
     rintro _ _ ⟨ez, rfl, x, rfl⟩
     have b3 := dj.n x
     refine Mw.p rfl rfl (fun _ => R.not rfl) (Mw.nil (cn hm (fun hm => ?_) fun hm => ?_))
     ·exact sr (Nb rfl (.ret (rt hm b3)))
     ·refine sk (sr (Ni rfl (sr (la ((bz.up e).up x) (mi rfl (cr hm (fun _ => p16 (K := [0]) (c0 := 6) (c1 := 7) (x0 := (Vm.Repo.mk B.Commits B.Heads)) (b0.up x) (b2.up x) rfl) ?_))))))
      rintro e0 _ b4 hm C ⟨rfl, e1, e2⟩
      have dl := b3.t C
      have b5 := ((((bq.up i).up k).up e).up x).up C
      have b6 := ((((br.up i).up k).up e).up x).up C
      have b7 := ((((bu.up i).up k).up e).up x).up C
      have a1 := ((((bp.up i).up k).up e).up x).up C
      refine Ni rfl (Cw.seq ?_)
      obtain ⟨dm, dn, hm⟩ := zaS hm
      refine Cw.join 60 72 [72] (fun l w => ∃ a3 a4, CW.w a4 = w ∧ Le [] b4 a4 ∧ l = [vB a3] ∧ dm a3 = some r) ?_ ?_
      ·rintro _ _ σ ⟨a3, a4, rfl, E, rfl, hm⟩
       rw [dn] at hm
       have b8 := dl.n E
       refine cn hm (fun hm => ?_) fun hm => ?_
       ·exact sr (Nb rfl (.ret (rt hm b8)))
       ·refine sk (sr (Ni rfl (sr (la (a1.up E) (mi rfl (cr hm (fun _ => p16 (K := [0]) (c0 := 9) (c1 := 10) (x0 := (Vm.Repo.mk a.1.Commits a.1.Heads)) (b5.up E) (b6.up E) rfl) ?_))))))
        rintro J _ e3 hm P ⟨rfl, b9, cb⟩
        have dp := b8.t P
        have cc := (a1.up E).up P
        refine Ni rfl (sr (Ni rfl (sr (la cc (mi rfl (ca hm (fun _ => p17 (K := [9, 10]) (x0 := (Vm.Repo.mk J.2.Commits J.2.Heads)) (Repo.rd (K := [9, 10]) J.2.Commits J.2.Heads (b9.rd.sub (M := [9, 10]) rfl) (cb.rd.sub (M := [9, 10]) rfl))) fun e4 e5 hm L => ?_))))))
        have U := dp.n L
        refine Ni rfl (ssr (mi rfl (Lw.lt rfl (nl (cn hm (fun hm => ?_) fun hm => ?_)))))
        ·exact sr (Nb rfl (.ret (rt hm U)))
        ·refine sk (ssr (mi rfl (mi rfl (Lw.ne rfl (nl (cn hm (fun hm => ?_) fun hm => ?_))))))
         ·exact sr (Nb rfl (.ret (rt hm U)))
         ·refine sk (sr (la ((((((bw.up e).up x).up C).up E).up P).up L) (cr hm (fun _ => p13 (k0 := 14) (k1 := 15) (Repo.rd (K := [0]) x0.Commits x0.Heads (Q.ul U) (S.ul U))) ?_)))
          rintro an _ e6 hm N ⟨e7, e8, rfl, dq, dr⟩
          have cd := U.n N
          refine ms rfl (mi rfl (cr hm (fun _ => p14 (K := [0, 14, 15]) (k0 := 16) (k1 := 17) (x0 := (Vm.Repo.mk an.Commits an.Heads)) ((Repo.rd (K := [14, 15]) an.Commits an.Heads (dq.rd.sub (M := [14, 15]) rfl) (dr.rd.sub (M := [14, 15]) rfl)).sub (M := [0, 14, 15]) rfl) ((a8.ul cd).sub (M := [0, 14, 15]) rfl)) ?_))
          rintro F _ e9 hm O ⟨ao, ap, rfl, ce, cf⟩
          have ds := cd.n O
          refine mv (.tuple [.agg [ao, ap].toArray, vI F.2].toArray) rfl (Lw.r rfl (R.ext (vs := [.agg [ao, ap].toArray, vI F.2]) (v := .agg [ao, ap].toArray) rfl rfl) (Lw.r rfl (R.ext (vs := [.agg [ao, ap].toArray, vI F.2]) (v := vI F.2) rfl rfl) (al 18 [.slice none 0 0, .slice none 0 0] fun fb fc A dt => ?_)))
          have du := ds.n A
          refine sta dt (zaa (ce.up A).oc (zaa (cf.up A).oc zaR)) fun dv G dw => ?_
          have dx := du.t G
          refine Ni rfl (Cw.seq ?_)
          obtain ⟨dy, dz, hm⟩ := zaS hm
          refine Cw.join 92 100 [100] (fun l w => ∃ a5 a6, CW.w a6 = w ∧ Le [] dv a6 ∧ l = [vB a5] ∧ dy a5 = some r) ?_ ?_
          ·rintro _ _ σ ⟨a5, a6, rfl, aq, rfl, hm⟩
           rw [dz] at hm
           have cg := dx.n aq
           refine cn hm (fun hm => ?_) fun hm => ?_
           ·exact sr (Nb rfl (.ret (rt hm cg)))
           ·refine sk (sr (Ni rfl (sr (la ((((((cc.up L).up N).up O).up A).up G).up aq) (mi rfl (ca hm (fun _ => p17 (K := [9, 10]) (x0 := (Vm.Repo.mk J.2.Commits J.2.Heads)) (Repo.rd (K := [9, 10]) J.2.Commits J.2.Heads (((((((b9.up L).up N).up O).up A).up G).up aq).rd.sub (M := [9, 10]) rfl) (((((((cb.up L).up N).up O).up A).up G).up aq).rd.sub (M := [9, 10]) rfl))) fun fd fe hm d0 => ?_))))))
            have a7 := cg.n d0
            refine Ni rfl (ssr (mi rfl (Lw.lt rfl (nl (cn hm (fun hm => ?_) fun hm => ?_)))))
            ·exact sr (Nb rfl (.ret (rt hm a7)))
            ·refine sk (ssr (mi rfl (mi rfl (Lw.ne rfl (nl (cn hm (fun hm => ?_) fun hm => ?_))))))
             ·exact sr (Nb rfl (.ret (rt hm a7)))
             ·exact sk (sr (Nb rfl (.ret (rt hm a7))))
          ·refine rg (la dw (la (((((((b7.up E).up P).up L).up N).up O).up A).up G) ?_))
           have d1 := ah.up ((H.sub (M := [5, 6, 7, 8, 9, 10, 11, 18]) rfl).trans ((I.sub (M := [5, 6, 7, 8, 9, 10, 11, 18]) rfl).trans ((D.sub (M := [5, 6, 7, 8, 9, 10, 11, 18]) rfl).trans ((h.sub (M := [5, 6, 7, 8, 9, 10, 11, 18]) rfl).trans ((z.sub (M := [5, 6, 7, 8, 9, 10, 11, 18]) rfl).trans ((y.sub (M := [5, 6, 7, 8, 9, 10, 11, 18]) rfl).trans ((b.sub (M := [5, 6, 7, 8, 9, 10, 11, 18]) rfl).trans ((d.sub (M := [5, 6, 7, 8, 9, 10, 11, 18]) rfl).trans ((i.sub (M := [5, 6, 7, 8, 9, 10, 11, 18]) rfl).trans ((k.sub (M := [5, 6, 7, 8, 9, 10, 11, 18]) rfl).trans ((e.sub (M := [5, 6, 7, 8, 9, 10, 11, 18]) rfl).trans ((x.sub (M := [5, 6, 7, 8, 9, 10, 11, 18]) rfl).trans ((C.sub (M := [5, 6, 7, 8, 9, 10, 11, 18]) rfl).trans ((E.sub (M := [5, 6, 7, 8, 9, 10, 11, 18]) rfl).trans ((P.sub (M := [5, 6, 7, 8, 9, 10, 11, 18]) rfl).trans ((L.sub (M := [5, 6, 7, 8, 9, 10, 11, 18]) rfl).trans ((N.sub (M := [5, 6, 7, 8, 9, 10, 11, 18]) rfl).trans ((O.sub (M := [5, 6, 7, 8, 9, 10, 11, 18]) rfl).trans ((A.sub (M := [5, 6, 7, 8, 9, 10, 11, 18]) rfl).trans (G.sub (M := [5, 6, 7, 8, 9, 10, 11, 18]) rfl)))))))))))))))))))) rfl
           have d2 := ai.up ((H.sub (M := [5, 6, 7, 8, 9, 10, 11, 18]) rfl).trans ((I.sub (M := [5, 6, 7, 8, 9, 10, 11, 18]) rfl).trans ((D.sub (M := [5, 6, 7, 8, 9, 10, 11, 18]) rfl).trans ((h.sub (M := [5, 6, 7, 8, 9, 10, 11, 18]) rfl).trans ((z.sub (M := [5, 6, 7, 8, 9, 10, 11, 18]) rfl).trans ((y.sub (M := [5, 6, 7, 8, 9, 10, 11, 18]) rfl).trans ((b.sub (M := [5, 6, 7, 8, 9, 10, 11, 18]) rfl).trans ((d.sub (M := [5, 6, 7, 8, 9, 10, 11, 18]) rfl).trans ((i.sub (M := [5, 6, 7, 8, 9, 10, 11, 18]) rfl).trans ((k.sub (M := [5, 6, 7, 8, 9, 10, 11, 18]) rfl).trans ((e.sub (M := [5, 6, 7, 8, 9, 10, 11, 18]) rfl).trans ((x.sub (M := [5, 6, 7, 8, 9, 10, 11, 18]) rfl).trans ((C.sub (M := [5, 6, 7, 8, 9, 10, 11, 18]) rfl).trans ((E.sub (M := [5, 6, 7, 8, 9, 10, 11, 18]) rfl).trans ((P.sub (M := [5, 6, 7, 8, 9, 10, 11, 18]) rfl).trans ((L.sub (M := [5, 6, 7, 8, 9, 10, 11, 18]) rfl).trans ((N.sub (M := [5, 6, 7, 8, 9, 10, 11, 18]) rfl).trans ((O.sub (M := [5, 6, 7, 8, 9, 10, 11, 18]) rfl).trans ((A.sub (M := [5, 6, 7, 8, 9, 10, 11, 18]) rfl).trans (G.sub (M := [5, 6, 7, 8, 9, 10, 11, 18]) rfl)))))))))))))))))))) rfl
           refine ca hm (fun _ => p15 (K := [0, 3, 4, 16, 17]) (x0 := (Vm.Repo.mk F.1.Commits F.1.Heads)) ((Repo.rd (K := [16, 17]) F.1.Commits F.1.Heads (((ce.up A).up G).rd.sub (M := [16, 17]) rfl) (((cf.up A).up G).rd.sub (M := [16, 17]) rfl)).sub (M := [0, 3, 4, 16, 17]) rfl) ((Repo.rd (K := [0, 3, 4]) f.1.Commits f.1.Heads d1 d2).sub (M := [0, 3, 4, 16, 17]) rfl)) fun ff ch hm ci => Lw.r rfl (R.not rfl) (mb rfl (bs hm (fun V hm => ?_) fun V hm => ?_))
           ·exact psk 3 V rfl (Pb V rfl (nl ((ag) ⟨true, ch, rfl, ci, rfl, hm⟩)))
           ·exact wak 3 V (mi rfl (mi rfl (Lw.ne rfl (Pb V rfl (nl ((ag) ⟨((F.2 : Int) != (f.2 : Int)), ch, rfl, ci, rfl, hm⟩))))))
      ·refine rg (mi rfl (Lw.lt rfl (mb rfl (bs hm (fun W hm => ?_) fun W hm => ?_))))
       ·exact psk 4 W rfl (Pb W rfl (mb rfl (psk 3 rfl rfl (Pb rfl rfl (nl ((ag) ⟨true, b4, rfl, Le.refl _ _, rfl, hm⟩))))))
       ·refine wak 4 W (la a1 (la b7 ?_))
        have d3 := ah.up ((H.sub (M := [5, 6, 7, 8, 11]) rfl).trans ((I.sub (M := [5, 6, 7, 8, 11]) rfl).trans ((D.sub (M := [5, 6, 7, 8, 11]) rfl).trans ((h.sub (M := [5, 6, 7, 8, 11]) rfl).trans ((z.sub (M := [5, 6, 7, 8, 11]) rfl).trans ((y.sub (M := [5, 6, 7, 8, 11]) rfl).trans ((b.sub (M := [5, 6, 7, 8, 11]) rfl).trans ((d.sub (M := [5, 6, 7, 8, 11]) rfl).trans ((i.sub (M := [5, 6, 7, 8, 11]) rfl).trans ((k.sub (M := [5, 6, 7, 8, 11]) rfl).trans ((e.sub (M := [5, 6, 7, 8, 11]) rfl).trans ((x.sub (M := [5, 6, 7, 8, 11]) rfl).trans (C.sub (M := [5, 6, 7, 8, 11]) rfl))))))))))))) rfl
        have d4 := ai.up ((H.sub (M := [5, 6, 7, 8, 11]) rfl).trans ((I.sub (M := [5, 6, 7, 8, 11]) rfl).trans ((D.sub (M := [5, 6, 7, 8, 11]) rfl).trans ((h.sub (M := [5, 6, 7, 8, 11]) rfl).trans ((z.sub (M := [5, 6, 7, 8, 11]) rfl).trans ((y.sub (M := [5, 6, 7, 8, 11]) rfl).trans ((b.sub (M := [5, 6, 7, 8, 11]) rfl).trans ((d.sub (M := [5, 6, 7, 8, 11]) rfl).trans ((i.sub (M := [5, 6, 7, 8, 11]) rfl).trans ((k.sub (M := [5, 6, 7, 8, 11]) rfl).trans ((e.sub (M := [5, 6, 7, 8, 11]) rfl).trans ((x.sub (M := [5, 6, 7, 8, 11]) rfl).trans (C.sub (M := [5, 6, 7, 8, 11]) rfl))))))))))))) rfl
        refine ca hm (fun _ => p15 (K := [0, 3, 4, 9, 10]) (x0 := (Vm.Repo.mk a.1.Commits a.1.Heads)) ((Repo.rd (K := [9, 10]) a.1.Commits a.1.Heads (b5.rd.sub (M := [9, 10]) rfl) (b6.rd.sub (M := [9, 10]) rfl)).sub (M := [0, 3, 4, 9, 10]) rfl) ((Repo.rd (K := [0, 3, 4]) f.1.Commits f.1.Heads d3 d4).sub (M := [0, 3, 4, 9, 10]) rfl)) fun fg cj hm ck => Lw.r rfl (R.not rfl) (Pb W rfl (mb rfl (bs hm (fun X hm => ?_) fun X hm => ?_)))
        ·exact psk 3 X rfl (Pb X rfl (nl ((ag) ⟨true, cj, rfl, ck, rfl, hm⟩)))
        ·exact wak 3 X (mi rfl (mi rfl (Lw.ne rfl (Pb X rfl (nl ((ag) ⟨((a.2 : Int) != (f.2 : Int)), cj, rfl, ck, rfl, hm⟩))))))
   ·refine rg (la bp (la bu ?_))
    have d5 := ah.up ((H.sub (M := [5, 8, 11]) rfl).trans ((I.sub (M := [5, 8, 11]) rfl).trans ((D.sub (M := [5, 8, 11]) rfl).trans ((h.sub (M := [5, 8, 11]) rfl).trans ((z.sub (M := [5, 8, 11]) rfl).trans ((y.sub (M := [5, 8, 11]) rfl).trans ((b.sub (M := [5, 8, 11]) rfl).trans (d.sub (M := [5, 8, 11]) rfl)))))))) rfl
    have d6 := ai.up ((H.sub (M := [5, 8, 11]) rfl).trans ((I.sub (M := [5, 8, 11]) rfl).trans ((D.sub (M := [5, 8, 11]) rfl).trans ((h.sub (M := [5, 8, 11]) rfl).trans ((z.sub (M := [5, 8, 11]) rfl).trans ((y.sub (M := [5, 8, 11]) rfl).trans ((b.sub (M := [5, 8, 11]) rfl).trans (d.sub (M := [5, 8, 11]) rfl)))))))) rfl
    refine ca hm (fun _ => p15 (K := [0, 3, 4, 9, 10]) (x0 := (Vm.Repo.mk a.1.Commits a.1.Heads)) ((Repo.rd (K := [9, 10]) a.1.Commits a.1.Heads (bq.rd.sub (M := [9, 10]) rfl) (br.rd.sub (M := [9, 10]) rfl)).sub (M := [0, 3, 4, 9, 10]) rfl) ((Repo.rd (K := [0, 3, 4]) f.1.Commits f.1.Heads d5 d6).sub (M := [0, 3, 4, 9, 10]) rfl)) fun fh cl hm cm => Lw.r rfl (R.not rfl) (mb rfl (bs hm (fun Y hm => ?_) fun Y hm => ?_))
    ·exact psk 3 Y rfl (Pb Y rfl (nl ((ag) ⟨true, cl, rfl, cm, rfl, hm⟩)))
    ·exact wak 3 Y (mi rfl (mi rfl (Lw.ne rfl (Pb Y rfl (nl ((ag) ⟨((a.2 : Int) != (f.2 : Int)), cl, rfl, cm, rfl, hm⟩))))))
theorem p3 {x0 a b x1 x2 r} (d : Rd W K [a, b] x0) (f : Gl 0 W K) (hm : Vm.zc1 x0 x1 x2 = some r) : Q1 3 [.agg [a, b].toArray, vS x1, vI x2] W [] fun W' v => v = vB r :=
 (c3 (d.view _) (f.view _) hm).ad (fk 0) fun _ _ e => e
end Go.Sx
