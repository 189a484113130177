/- Walks: each function answers as its model, printed by a program of ours. Conditions: the arguments read as they are given. -/
import Derived.Test.YtokbhelngoeblaaGreatDoorBTs
import Derived.Test.YtokbhelngoeblaaGreatDoorBM6
import Derived.Test.YtokbhelngoeblaaGreatDoorBW10
import Derived.Test.YtokbhelngoeblaaGreatDoorBW11
import Derived.Test.YtokbhelngoeblaaGreatDoorBW12
import Derived.Test.YtokbhelngoeblaaGreatDoorBW5
import Derived.Test.YtokbhelngoeblaaGreatDoorBW8
namespace Go.Sx
open Go Go.Proofs Go.Vm Rp
set_option linter.unusedVariables false
set_option linter.unusedSimpArgs false
variable {W W0 : CW} {K : List Nat}
theorem c10 {x0 ak r} (h0 : Rd W0 [0] [ak] x0) (I : Gl 0 W0 [0]) (hm : Vm.ziG x0 = some r) : Q0 10 [ak] W0 fun Wf v => v = vB r := by
 unfold Vm.ziG at hm
 refine zaI.of Tryz.func10 rfl rfl rfl rfl (sr (Nb rfl (ssr (mv ak rfl (Lw.ln x0 h0 rfl (Lw.gt rfl (nl (cn hm (fun hm => ?_) fun hm => ?_))))))))
 ·exact sr (Nb rfl (.ret (rt hm (Le.refl _ _))))
 ·refine sk (sr (mv ak rfl (cr hm (fun _ => p42 (k0 := 2) (k1 := 3) h0) ?_)))
  rintro b _ W4 hm l4 ⟨E, F, rfl, bw, bz⟩
  have a5 := l4.o
  refine mv (.tuple [.agg [E, F].toArray, vS b.2.1, vS b.2.2.1, vI b.2.2.2].toArray) rfl (Lw.r rfl (R.ext (vs := [.agg [E, F].toArray, vS b.2.1, vS b.2.2.1, vI b.2.2.2]) (v := .agg [E, F].toArray) rfl rfl) (Lw.r rfl (R.ext (vs := [.agg [E, F].toArray, vS b.2.1, vS b.2.2.1, vI b.2.2.2]) (v := vS b.2.1) rfl rfl) (Lw.r rfl (R.ext (vs := [.agg [E, F].toArray, vS b.2.1, vS b.2.2.1, vI b.2.2.2]) (v := vS b.2.2.1) rfl rfl) (Lw.r rfl (R.ext (vs := [.agg [E, F].toArray, vS b.2.1, vS b.2.2.1, vI b.2.2.2]) (v := vI b.2.2.2) rfl rfl) (al 4 [.slice none 0 0, .slice none 0 0] fun g6 W6 V b6 => ?_)))))
  have a7 := a5.n V
  refine sta b6 (zab (bw.up V).oc (zab (bz.up V).oc za3)) fun fj l10 b0 => ?_
  have b1 := a7.t l10
  have b2 := (bw.up V).up l10
  have b3 := (bz.up V).up l10
  refine Gs rfl (Gs rfl (Ni rfl (sr (la b0 (ms rfl (ms rfl (mi rfl (cr hm (fun _ => p43 (K := [0, 2, 3]) (k0 := 5) (k1 := 6) (x0 := (Vm.Repo.mk b.1.Commits b.1.Heads)) ((Repo.rd (K := [2, 3]) b.1.Commits b.1.Heads (b2.rd.sub (M := [2, 3]) rfl) (b3.rd.sub (M := [2, 3]) rfl)).sub (M := [0, 2, 3]) rfl) ((I.ul b1).sub (M := [0, 2, 3]) rfl)) ?_))))))))
  rintro f _ fm hm am ⟨i, k, rfl, b4, b5⟩
  have c2 := b1.n am
  refine mv (.tuple [.agg [i, k].toArray, vI f.2].toArray) rfl (Lw.r rfl (R.ext (vs := [.agg [i, k].toArray, vI f.2]) (v := .agg [i, k].toArray) rfl rfl) (Lw.r rfl (R.ext (vs := [.agg [i, k].toArray, vI f.2]) (v := vI f.2) rfl rfl) (al 7 [.slice none 0 0, .slice none 0 0] fun fn fo G c3 => ?_)))
  have c4 := c2.n G
  refine sta c3 (zab (b4.up G).oc (zab (b5.up G).oc za3)) fun fp P c5 => ?_
  have c6 := c4.t P
  have b7 := ((b2.up am).up G).up P
  have b8 := ((b3.up am).up G).up P
  have b9 := ((b0.up am).up G).up P
  refine Ni rfl (sr (la b9 (ms rfl (ms rfl (mi rfl (cr hm (fun _ => p44 (K := [2, 3]) (x0 := (Vm.Repo.mk b.1.Commits b.1.Heads)) (Repo.rd (K := [2, 3]) b.1.Commits b.1.Heads (b7.rd.sub (M := [2, 3]) rfl) (b8.rd.sub (M := [2, 3]) rfl))) ?_))))))
  rintro H _ fq hm J ⟨an, ao, rfl, c7, c8⟩
  have ar := c7.sub (M := [0, 2, 3]) rfl
  have au := c8.sub (M := [0, 2, 3]) rfl
  have c9 := c6.n J
  refine mv (.tuple [.agg [an, ao].toArray, vI H.2].toArray) rfl (Lw.r rfl (R.ext (vs := [.agg [an, ao].toArray, vI H.2]) (v := .agg [an, ao].toArray) rfl rfl) (Lw.r rfl (R.ext (vs := [.agg [an, ao].toArray, vI H.2]) (v := vI H.2) rfl rfl) (al 8 [.slice none 0 0, .slice none 0 0] fun fr fs z da => ?_)))
  have db := c9.n z
  refine sta da (zab ar.oc (zab au.oc za3)) fun cb A cc => ?_
  have dc := db.t A
  have av := ((((b4.up G).up P).up J).up z).up A
  have aw := ((((b5.up G).up P).up J).up z).up A
  have ax := ((c5.up J).up z).up A
  refine Ni rfl (Cw.seq ?_)
  obtain ⟨dd, de, hm⟩ := zc1 hm
  refine Cw.join 43 55 [55] (fun l w => ∃ ay Y, CW.w Y = w ∧ Le [] cb Y ∧ l = [vB ay] ∧ dd ay = some r) ?_ ?_
  ·rintro _ _ σ ⟨ay, Y, rfl, y, rfl, hm⟩
   rw [de] at hm
   have cd := dc.n y
   refine cn hm (fun hm => ?_) fun hm => ?_
   ·obtain ⟨df, dg, hm⟩ := zc1 hm
    refine Cw.join 56 63 [2] (fun l w => ∃ az a0, CW.w a0 = w ∧ Le [] Y a0 ∧ l = [vB az] ∧ df az = some r) ?_ ?_
    ·rintro _ _ σ ⟨az, a0, rfl, dh, rfl, hm⟩
     rw [dg] at hm
     have di := cd.n dh
     exact .ret (rt hm di)
    ·refine rg (mi rfl (mi rfl (Lw.eq rfl (mb rfl (bs hm (fun Z hm => ?_) fun Z hm => ?_)))))
     ·refine wak 3 Z (la (ax.up y) (la (cc.up y) ?_))
      have dj := ar.up ((z.sub (M := [8]) rfl).trans ((A.sub (M := [8]) rfl).trans (y.sub (M := [8]) rfl))) rfl
      have dk := au.up ((z.sub (M := [8]) rfl).trans ((A.sub (M := [8]) rfl).trans (y.sub (M := [8]) rfl))) rfl
      exact ca hm (fun _ => p45 (K := [0, 2, 3, 5, 6]) (x0 := (Vm.Repo.mk f.1.Commits f.1.Heads)) ((Repo.rd (K := [5, 6]) f.1.Commits f.1.Heads ((av.up y).rd.sub (M := [5, 6]) rfl) ((aw.up y).rd.sub (M := [5, 6]) rfl)).sub (M := [0, 2, 3, 5, 6]) rfl) ((Repo.rd (K := [0, 2, 3]) H.1.Commits H.1.Heads dj dk).sub (M := [0, 2, 3, 5, 6]) rfl)) fun dl dm hm dn => Pb Z rfl (Nb rfl ((ag) ⟨dl, dm, rfl, dn, rfl, hm⟩))
     ·exact psk 3 Z rfl (Pb Z rfl (Nb rfl ((ag) ⟨false, Y, rfl, Le.refl _ _, rfl, hm⟩)))
   ·refine sk (Cw.seq ?_)
    obtain ⟨Q, dp, hm⟩ := ob hm
    obtain ⟨a, dq, hm⟩ := ob hm
    refine Cw.par [[], [], [], [], [], [3, 4], [0, 1, 2, 3, 4, 5], [0, 1, 2, 3, 4, 5, 6], [0, 1, 2, 3, 4, 5, 6, 7], [0, 1, 2, 3, 4, 5, 6, 7], [], [0, 1, 2, 3, 4, 5, 6, 7, 8, 10], [0, 1, 2, 3, 4, 5, 6, 7, 8, 9, 10, 11]] [[], [], [], [], [], [3, 4], [0, 1, 2, 5], [6], [6, 7], [6, 7], [], [6, 8, 10], [9]] [[], [], [], [], [], [], [], [], [], [], [], [11], []] [[0], [1], [2], [3], [4], [5], [6], [6, 7], [6, 8], [9], [10], [6, 10], [12]] [[], [], [], [], [], [], [9, 10], [], [], [], [11], [11], []] [0, 1, 2, 3, 4, 5, 6, 7, 8, 9, 11, 12] [11] [fun vs W => (vs 0) = .agg [i, k].toArray, fun vs W => (vs 1) = vS b.2.1, fun vs W => (vs 2) = vS b.2.2.1, fun vs W => (vs 3) = .agg [i, k].toArray, fun vs W => (vs 4) = vS b.2.1, fun vs W => (vs 5) = vI Q, fun vs W => (vs 6) = .tuple [.agg [(zaw (zaw (vs 6) 0) 0), (zaw (zaw (vs 6) 0) 1)].toArray, vI a.2].toArray ∧ Ow W 9 [] [(zaw (zaw (vs 6) 0) 0)] a.1.Commits ∧ Ow W 10 [] [(zaw (zaw (vs 6) 0) 1)] a.1.Heads, fun vs W => (vs 7) = .tuple [.agg [(zaw (zaw (vs 6) 0) 0), (zaw (zaw (vs 6) 0) 1)].toArray, vI a.2].toArray, fun vs W => (vs 8) = .agg [(zaw (zaw (vs 6) 0) 0), (zaw (zaw (vs 6) 0) 1)].toArray, fun vs W => (vs 9) = vI a.2, fun vs W => (vs 10) = ptr (bx (pg (vs 10))) ∧ Bx W 11 (pg (vs 10)) [.slice none 0 0, .slice none 0 0], fun vs W => (vs 10) = ptr (bx (pg (vs 10))) ∧ Bx W 11 (pg (vs 10)) [(zaw (zaw (vs 6) 0) 0), (zaw (zaw (vs 6) 0) 1)], fun vs W => (vs 12) = vI a.2] [] mixed (by kernel_rfl) rfl zpA.nil ?_
    intro ft L
    have a1 := cd.n L
    have ce := (av.up y).up L
    have cf := (aw.up y).up L
    have cg := (ax.up y).up L
    refine ⟨(zcV.cons ?_ (zcV.cons ?_ (zcV.cons ?_ (zcV.cons ?_ (zcV.cons ?_ (zcV.cons ?_ (zcV.cons ?_ (zcV.cons ?_ (zcV.cons ?_ (zcV.cons ?_ (zcV.cons ?_ (zcV.cons ?_ (zcV.cons ?_ zcV.nil))))))))))))), (zg5.cons (fun vs vs' W W' _ hv l hd h => by (show (vs' 0) = .agg [i, k].toArray); rw [hv 0 (za6 rfl)]; exact h) (zg5.cons (fun vs vs' W W' _ hv l hd h => by (show (vs' 1) = vS b.2.1); rw [hv 1 (za6 rfl)]; exact h) (zg5.cons (fun vs vs' W W' _ hv l hd h => by (show (vs' 2) = vS b.2.2.1); rw [hv 2 (za6 rfl)]; exact h) (zg5.cons (fun vs vs' W W' _ hv l hd h => by (show (vs' 3) = .agg [i, k].toArray); rw [hv 3 (za6 rfl)]; exact h) (zg5.cons (fun vs vs' W W' _ hv l hd h => by (show (vs' 4) = vS b.2.1); rw [hv 4 (za6 rfl)]; exact h) (zg5.cons (fun vs vs' W W' _ hv l hd h => by (show (vs' 5) = vI Q); rw [hv 5 (za6 rfl)]; exact h) (zg5.cons (fun vs vs' W W' _ hv l hd h => by (show (vs' 6) = .tuple [.agg [(zaw (zaw (vs' 6) 0) 0), (zaw (zaw (vs' 6) 0) 1)].toArray, vI a.2].toArray ∧ Ow W' 9 [] [(zaw (zaw (vs' 6) 0) 0)] a.1.Commits ∧ Ow W' 10 [] [(zaw (zaw (vs' 6) 0) 1)] a.1.Heads); rw [hv 6 (za6 rfl)]; exact ⟨h.1, h.2.1.upv l (zdP hd (c := 9) rfl), h.2.2.upv l (zdP hd (c := 10) rfl)⟩) (zg5.cons (fun vs vs' W W' _ hv l hd h => by (show (vs' 7) = .tuple [.agg [(zaw (zaw (vs' 6) 0) 0), (zaw (zaw (vs' 6) 0) 1)].toArray, vI a.2].toArray); rw [hv 6 (za6 rfl), hv 7 (za6 rfl)]; exact h) (zg5.cons (fun vs vs' W W' _ hv l hd h => by (show (vs' 8) = .agg [(zaw (zaw (vs' 6) 0) 0), (zaw (zaw (vs' 6) 0) 1)].toArray); rw [hv 6 (za6 rfl), hv 8 (za6 rfl)]; exact h) (zg5.cons (fun vs vs' W W' _ hv l hd h => by (show (vs' 9) = vI a.2); rw [hv 9 (za6 rfl)]; exact h) (zg5.cons (fun vs vs' W W' _ hv l hd h => by (show (vs' 10) = ptr (bx (pg (vs' 10))) ∧ Bx W' 11 (pg (vs' 10)) [.slice none 0 0, .slice none 0 0]); rw [hv 10 (za6 rfl)]; exact ⟨h.1, h.2.up l (zdP hd (c := 11) rfl)⟩) (zg5.cons (fun vs vs' W W' _ hv l hd h => by (show (vs' 10) = ptr (bx (pg (vs' 10))) ∧ Bx W' 11 (pg (vs' 10)) [(zaw (zaw (vs' 6) 0) 0), (zaw (zaw (vs' 6) 0) 1)]); rw [hv 6 (za6 rfl), hv 10 (za6 rfl)]; exact ⟨h.1, h.2.up l (zdP hd (c := 11) rfl)⟩) (zg5.cons (fun vs vs' W W' _ hv l hd h => by (show (vs' 12) = vI a.2); rw [hv 12 (za6 rfl)]; exact h) zg5.nil))))))))))))), ?_⟩
    ·intro vs W lW hN
     obtain ⟨dr, ds⟩ : ∃ X, X = W := ⟨W, rfl⟩
     subst ds
     refine Tr.mono (Run.tr (R.lda (cs := [i, k]) (cg.up lW rfl).cells rfl rfl)) ?_
     rintro _ _ ⟨hu, rfl⟩
     obtain rfl := hu.symm
     exact ⟨dr, rfl, Le.refl _ _, (show (.agg [i, k].toArray : Value) = .agg [i, k].toArray from rfl)⟩
    ·intro vs W lW hN
     obtain ⟨dt, du⟩ : ∃ X, X = W := ⟨W, rfl⟩
     subst du
     refine Tr.mono (Run.tr (R.mv (v := vS b.2.1) rfl)) ?_
     rintro _ _ ⟨hu, rfl⟩
     obtain rfl := hu.symm
     exact ⟨dt, rfl, Le.refl _ _, (show (vS b.2.1 : Value) = vS b.2.1 from rfl)⟩
    ·intro vs W lW hN
     obtain ⟨dv, dw⟩ : ∃ X, X = W := ⟨W, rfl⟩
     subst dw
     refine Tr.mono (Run.tr (R.mv (v := vS b.2.2.1) rfl)) ?_
     rintro _ _ ⟨hu, rfl⟩
     obtain rfl := hu.symm
     exact ⟨dv, rfl, Le.refl _ _, (show (vS b.2.2.1 : Value) = vS b.2.2.1 from rfl)⟩
    ·intro vs W lW hN
     obtain ⟨dx, dy⟩ : ∃ X, X = W := ⟨W, rfl⟩
     subst dy
     refine Tr.mono (Run.tr (R.lda (cs := [i, k]) (cg.up lW rfl).cells rfl rfl)) ?_
     rintro _ _ ⟨hu, rfl⟩
     obtain rfl := hu.symm
     exact ⟨dx, rfl, Le.refl _ _, (show (.agg [i, k].toArray : Value) = .agg [i, k].toArray from rfl)⟩
    ·intro vs W lW hN
     obtain ⟨dz, d0⟩ : ∃ X, X = W := ⟨W, rfl⟩
     subst d0
     refine Tr.mono (Run.tr (R.mv (v := vS b.2.1) rfl)) ?_
     rintro _ _ ⟨hu, rfl⟩
     obtain rfl := hu.symm
     exact ⟨dz, rfl, Le.refl _ _, (show (vS b.2.1 : Value) = vS b.2.1 from rfl)⟩
    ·intro vs W lW hN
     obtain ⟨fu, d1⟩ : ∃ X, X = W := ⟨W, rfl⟩
     subst d1
     have d2 := a1.t lW rfl
     have a2 : vs 3 = .agg [i, k].toArray := (hN 3 (za6 rfl))
     obtain ⟨vs, rfl⟩ := za7 a2
     have a3 : vs 4 = vS b.2.1 := (hN 4 (za6 rfl))
     obtain ⟨vs, rfl⟩ := za7 a3
     refine Tr.mono (T.call rfl (p46 (K := [0, 5, 6])  (x0 := (Vm.Repo.mk f.1.Commits f.1.Heads)) ((Repo.rd (K := [5, 6]) f.1.Commits f.1.Heads ((ce.up lW rfl).rd.sub (M := [5, 6]) rfl) ((cf.up lW rfl).rd.sub (M := [5, 6]) rfl)).sub (M := [0, 5, 6]) rfl) ((I.ul d2).sub (M := [0, 5, 6]) rfl) dp)) ?_
     rintro _ _ ⟨d3, rfl, d4, rfl⟩
     exact ⟨d3, rfl, d4, (show (vI Q : Value) = vI Q from rfl)⟩
    ·intro vs W lW hN
     obtain ⟨fv, d5⟩ : ∃ X, X = W := ⟨W, rfl⟩
     subst d5
     have d6 := a1.t lW rfl
     have a4 : vs 0 = .agg [i, k].toArray := (hN 0 (za6 rfl))
     obtain ⟨vs, rfl⟩ := za7 a4
     have a6 : vs 1 = vS b.2.1 := (hN 1 (za6 rfl))
     obtain ⟨vs, rfl⟩ := za7 a6
     have a8 : vs 2 = vS b.2.2.1 := (hN 2 (za6 rfl))
     obtain ⟨vs, rfl⟩ := za7 a8
     have a9 : vs 5 = vI Q := (hN 5 (za6 rfl))
     obtain ⟨vs, rfl⟩ := za7 a9
     refine Tr.mono (T.call rfl (p51 (K := [0, 5, 6]) (k0 := 9) (k1 := 10) (x0 := (Vm.Repo.mk f.1.Commits f.1.Heads)) ((Repo.rd (K := [5, 6]) f.1.Commits f.1.Heads ((ce.up lW rfl).rd.sub (M := [5, 6]) rfl) ((cf.up lW rfl).rd.sub (M := [5, 6]) rfl)).sub (M := [0, 5, 6]) rfl) ((I.ul d6).sub (M := [0, 5, 6]) rfl) dq)) ?_
     rintro _ _ ⟨ba, rfl, d7, ⟨bb, bc, rfl, d8, d9⟩⟩
     exact ⟨ba, rfl, d7, (show (.tuple [.agg [bb, bc].toArray, vI a.2].toArray : Value) = .tuple [.agg [bb, bc].toArray, vI a.2].toArray ∧ Ow ba 9 [] [bb] a.1.Commits ∧ Ow ba 10 [] [bc] a.1.Heads from ⟨rfl, d8, d9⟩)⟩
    ·intro vs W lW hN
     obtain ⟨be, ea⟩ : ∃ X, X = W := ⟨W, rfl⟩
     subst ea
     obtain ⟨d, e, C⟩ : ∃ d e : Value, vs 6 = .tuple [.agg [d, e].toArray, vI a.2].toArray := ⟨_, _, (hN 6 (za6 rfl)).1⟩
     obtain ⟨vs, rfl⟩ := za7 C
     have fw : Ow be 9 [] [d] a.1.Commits := (hN 6 (za6 rfl)).2.1
     have fx : Ow be 10 [] [e] a.1.Heads := (hN 6 (za6 rfl)).2.2
     refine Tr.mono (Run.tr (R.mv (v := .tuple [.agg [d, e].toArray, vI a.2].toArray) rfl)) ?_
     rintro _ _ ⟨hu, rfl⟩
     obtain rfl := hu.symm
     exact ⟨be, rfl, Le.refl _ _, (show (.tuple [.agg [d, e].toArray, vI a.2].toArray : Value) = .tuple [.agg [d, e].toArray, vI a.2].toArray from rfl)⟩
    ·intro vs W lW hN
     obtain ⟨bg, eb⟩ : ∃ X, X = W := ⟨W, rfl⟩
     subst eb
     obtain ⟨d, e, C⟩ : ∃ d e : Value, vs 6 = .tuple [.agg [d, e].toArray, vI a.2].toArray := ⟨_, _, (hN 6 (za6 rfl)).1⟩
     obtain ⟨vs, rfl⟩ := za7 C
     have fy : Ow bg 9 [] [d] a.1.Commits := (hN 6 (za6 rfl)).2.1
     have fz : Ow bg 10 [] [e] a.1.Heads := (hN 6 (za6 rfl)).2.2
     have aa : vs 7 = .tuple [.agg [d, e].toArray, vI a.2].toArray := (hN 7 (za6 rfl))
     obtain ⟨vs, rfl⟩ := za7 aa
     refine Tr.mono (Run.tr (R.ext (vs := [.agg [d, e].toArray, vI a.2]) (v := .agg [d, e].toArray) rfl rfl)) ?_
     rintro _ _ ⟨hu, rfl⟩
     obtain rfl := hu.symm
     exact ⟨bg, rfl, Le.refl _ _, (show (.agg [d, e].toArray : Value) = .agg [d, e].toArray from rfl)⟩
    ·intro vs W lW hN
     obtain ⟨bh, ec⟩ : ∃ X, X = W := ⟨W, rfl⟩
     subst ec
     obtain ⟨d, e, C⟩ : ∃ d e : Value, vs 6 = .tuple [.agg [d, e].toArray, vI a.2].toArray := ⟨_, _, (hN 6 (za6 rfl)).1⟩
     obtain ⟨vs, rfl⟩ := za7 C
     have f0 : Ow bh 9 [] [d] a.1.Commits := (hN 6 (za6 rfl)).2.1
     have f1 : Ow bh 10 [] [e] a.1.Heads := (hN 6 (za6 rfl)).2.2
     have aa : vs 7 = .tuple [.agg [d, e].toArray, vI a.2].toArray := (hN 7 (za6 rfl))
     obtain ⟨vs, rfl⟩ := za7 aa
     refine Tr.mono (Run.tr (R.ext (vs := [.agg [d, e].toArray, vI a.2]) (v := vI a.2) rfl rfl)) ?_
     rintro _ _ ⟨hu, rfl⟩
     obtain rfl := hu.symm
     exact ⟨bh, rfl, Le.refl _ _, (show (vI a.2 : Value) = vI a.2 from rfl)⟩
    ·intro vs W lW hN
     obtain ⟨f2, ed⟩ : ∃ X, X = W := ⟨W, rfl⟩
     subst ed
     refine Tr.mono (T.alloc 11 (cs := [.slice none 0 0, .slice none 0 0]) rfl) ?_
     rintro _ _ ⟨bi, ch, rfl, rfl, ee, ef⟩
     exact ⟨ch, rfl, ee, (show (ptr (bx bi) : Value) = ptr (bx bi) ∧ Bx ch 11 bi [.slice none 0 0, .slice none 0 0] from ⟨rfl, ef⟩)⟩
    ·intro vs W lW hN
     obtain ⟨bj, eg⟩ : ∃ X, X = W := ⟨W, rfl⟩
     subst eg
     obtain ⟨d, e, C⟩ : ∃ d e : Value, vs 6 = .tuple [.agg [d, e].toArray, vI a.2].toArray := ⟨_, _, (hN 6 (za6 rfl)).1⟩
     obtain ⟨vs, rfl⟩ := za7 C
     have eh : Ow bj 9 [] [d] a.1.Commits := (hN 6 (za6 rfl)).2.1
     have ei : Ow bj 10 [] [e] a.1.Heads := (hN 6 (za6 rfl)).2.2
     have bk : vs 8 = .agg [d, e].toArray := (hN 8 (za6 rfl))
     obtain ⟨vs, rfl⟩ := za7 bk
     obtain ⟨B, bl⟩ : ∃ B, vs 10 = ptr (bx B) := ⟨_, ((hN 10 (za6 rfl))).1⟩
     obtain ⟨vs, rfl⟩ := za7 bl
     have ej : Bx bj 11 B [.slice none 0 0, .slice none 0 0] := (hN 10 (za6 rfl)).2
     refine Tr.mono (T.sta (vs := [d, e]) ej rfl rfl (zab eh.oc (zab ei.oc za3)) rfl rfl) ?_
     rintro _ _ ⟨ci, rfl, ek, el⟩
     exact ⟨ci, rfl, ek, (show (ptr (bx B)) = ptr (bx B) ∧ Bx ci 11 B [d, e] from ⟨rfl, el⟩)⟩
    ·intro vs W lW hN
     obtain ⟨em, en⟩ : ∃ X, X = W := ⟨W, rfl⟩
     subst en
     have bm : vs 9 = vI a.2 := (hN 9 (za6 rfl))
     obtain ⟨vs, rfl⟩ := za7 bm
     refine Tr.mono (Run.tr (R.as (v := vI a.2) rfl)) ?_
     rintro _ _ ⟨hu, rfl⟩
     obtain rfl := hu.symm
     exact ⟨em, rfl, Le.refl _ _, (show (vI a.2 : Value) = vI a.2 from rfl)⟩
    ·intro vs W lW hN
     obtain ⟨bn, eo⟩ : ∃ X, X = W := ⟨W, rfl⟩
     subst eo
     have ep := a1.t lW rfl
     obtain ⟨f3, hl331⟩ : ∃ x, x = lW := ⟨lW, rfl⟩
     have a4 : vs 0 = .agg [i, k].toArray := (hN 0 (za6 rfl))
     obtain ⟨vs, rfl⟩ := za7 a4
     have a6 : vs 1 = vS b.2.1 := (hN 1 (za6 rfl))
     obtain ⟨vs, rfl⟩ := za7 a6
     have a8 : vs 2 = vS b.2.2.1 := (hN 2 (za6 rfl))
     obtain ⟨vs, rfl⟩ := za7 a8
     have a2 : vs 3 = .agg [i, k].toArray := (hN 3 (za6 rfl))
     obtain ⟨vs, rfl⟩ := za7 a2
     have a3 : vs 4 = vS b.2.1 := (hN 4 (za6 rfl))
     obtain ⟨vs, rfl⟩ := za7 a3
     have a9 : vs 5 = vI Q := (hN 5 (za6 rfl))
     obtain ⟨vs, rfl⟩ := za7 a9
     obtain ⟨d, e, C⟩ : ∃ d e : Value, vs 6 = .tuple [.agg [d, e].toArray, vI a.2].toArray := ⟨_, _, (hN 6 (za6 rfl)).1⟩
     obtain ⟨vs, rfl⟩ := za7 C
     have er : Ow bn 9 [] [d] a.1.Commits := (hN 6 (za6 rfl)).2.1
     have es : Ow bn 10 [] [e] a.1.Heads := (hN 6 (za6 rfl)).2.2
     have aa : vs 7 = .tuple [.agg [d, e].toArray, vI a.2].toArray := (hN 7 (za6 rfl))
     obtain ⟨vs, rfl⟩ := za7 aa
     have bk : vs 8 = .agg [d, e].toArray := (hN 8 (za6 rfl))
     obtain ⟨vs, rfl⟩ := za7 bk
     have bm : vs 9 = vI a.2 := (hN 9 (za6 rfl))
     obtain ⟨vs, rfl⟩ := za7 bm
     obtain ⟨B, bl⟩ : ∃ B, vs 10 = ptr (bx B) := ⟨_, (hN 11 (za6 rfl)).1⟩
     obtain ⟨vs, rfl⟩ := za7 bl
     have et : Bx bn 11 B [d, e] := (hN 11 (za6 rfl)).2
     have eu : vs 12 = vI a.2 := (hN 12 (za6 rfl))
     obtain ⟨vs, rfl⟩ := za7 eu
     refine Cw.seq (Cw.draw [] [(0, 1), (1, 1), (2, 0), (3, 2), (4, 2), (5, 0), (6, 0), (7, 0), (8, 0), (9, 0)] mixed (by kernel_rfl) fun f4 N => ?_)
     have cj := ep.n N
     have ck := ((((((b7.up J).up z).up A).up y).up L).up lW rfl).up N
     have cl := ((((((b8.up J).up z).up A).up y).up L).up lW rfl).up N
     have cm := ((((((b9.up J).up z).up A).up y).up L).up lW rfl).up N
     refine Mw.q rfl rfl (fun _ c => R.lda (cs := [E, F]) (cm.clcs rfl c) rfl rfl) (Mw.q rfl rfl (fun _ c => R.lda (cs := [E, F]) (cm.clcs rfl c) rfl rfl) (Ds rfl ?_))
     obtain ⟨f5, ew, hm⟩ := ob hm
     refine Mw.t rfl rfl (T.call rfl (p46 (K := [0, 2, 3])  (x0 := (Vm.Repo.mk b.1.Commits b.1.Heads)) ((Repo.rd (K := [2, 3]) b.1.Commits b.1.Heads (ck.rd.sub (M := [2, 3]) rfl) (cl.rd.sub (M := [2, 3]) rfl)).sub (M := [0, 2, 3]) rfl) ((I.ul cj).sub (M := [0, 2, 3]) rfl) ew)) ?_
     rintro _ _ ⟨f6, rfl, O, rfl⟩
     have co := cj.n O
     refine m0 O fun ex => ?_
     obtain ⟨ap, ey, hm⟩ := ob hm
     refine Mw.t rfl rfl (T.call rfl (p23 (K := [0, 2, 3]) (k0 := 12) (x0 := (Vm.Repo.mk b.1.Commits b.1.Heads)) ((Repo.rd (K := [2, 3]) b.1.Commits b.1.Heads ((ck.up O).rd.sub (M := [2, 3]) rfl) ((cl.up O).rd.sub (M := [2, 3]) rfl)).sub (M := [0, 2, 3]) rfl) ((I.ul co).sub (M := [0, 2, 3]) rfl) ey)) ?_
     rintro _ _ ⟨f7, rfl, ac, ⟨S, rfl, ez⟩⟩
     have e0 := co.n ac
     refine mc ex ac fun f8 => Dv (.tuple [S, vB ap.2].toArray) rfl (Mw.p rfl rfl (fun _ => R.ext (vs := [S, vB ap.2]) (v := S) rfl rfl) (Mw.p rfl rfl (fun _ => R.ext (vs := [S, vB ap.2]) (v := vB ap.2) rfl rfl) (Hv S rfl (Hb rfl (Mw.nil (Cw.seq (Cw.draw [] [(0, 1), (1, 1), (2, 0), (3, 2), (4, 2), (5, 0), (6, 0), (7, 0), (8, 0), (9, 0)] mixed (by kernel_rfl) fun f9 ae => ?_)))))))
     have cp := e0.n ae
     have cq := (((er.up N).up O).up ac).up ae
     have ct := (((es.up N).up O).up ac).up ae
     have cu := (((et.up N).up O).up ac).up ae
     refine Mw.q rfl rfl (fun _ c => R.lda (cs := [d, e]) (cu.clcs rfl c) rfl rfl) (Mw.q rfl rfl (fun _ c => R.lda (cs := [d, e]) (cu.clcs rfl c) rfl rfl) (Ds rfl ?_))
     obtain ⟨ga, e1, hm⟩ := ob hm
     refine Mw.t rfl rfl (T.call rfl (p46 (K := [0, 9, 10])  (x0 := (Vm.Repo.mk a.1.Commits a.1.Heads)) ((Repo.rd (K := [9, 10]) a.1.Commits a.1.Heads (cq.rd.sub (M := [9, 10]) rfl) (ct.rd.sub (M := [9, 10]) rfl)).sub (M := [0, 9, 10]) rfl) ((I.ul cp).sub (M := [0, 9, 10]) rfl) e1)) ?_
     rintro _ _ ⟨gb, rfl, af, rfl⟩
     have cv := cp.n af
     refine m0 af fun e2 => ?_
     obtain ⟨aq, e3, hm⟩ := ob hm
     refine Mw.t rfl rfl (T.call rfl (p23 (K := [0, 9, 10]) (k0 := 13) (x0 := (Vm.Repo.mk a.1.Commits a.1.Heads)) ((Repo.rd (K := [9, 10]) a.1.Commits a.1.Heads ((cq.up af).rd.sub (M := [9, 10]) rfl) ((ct.up af).rd.sub (M := [9, 10]) rfl)).sub (M := [0, 9, 10]) rfl) ((I.ul cv).sub (M := [0, 9, 10]) rfl) e3)) ?_
     rintro _ _ ⟨bp, rfl, bq, ⟨U, rfl, e4⟩⟩
     have e5 := cv.n bq
     refine mc e2 bq fun gc => Dv (.tuple [U, vB aq.2].toArray) rfl (Mw.p rfl rfl (fun _ => R.ext (vs := [U, vB aq.2]) (v := U) rfl rfl) (Mw.p rfl rfl (fun _ => R.ext (vs := [U, vB aq.2]) (v := vB aq.2) rfl rfl) (Hv U rfl (Hb rfl (Mw.nil ?_)))))
     obtain ⟨e6, e7, hm⟩ := zc1 hm
     refine Cw.join 90 100 [2] (fun l w => ∃ br bu, CW.w bu = w ∧ Le [] bp bu ∧ l = [vB br] ∧ e6 br = some r) ?_ ?_
     ·rintro _ _ σ ⟨br, bu, rfl, e8, rfl, hm⟩
      rw [e7] at hm
      have e9 := e5.n e8
      exact .ret (rt hm e9)
     ·refine rg (mi rfl (Lw.eq rfl (mb rfl (bs hm (fun D hm => ?_) fun D hm => ?_))))
      ·exact psk 3 D rfl (puk 3 rfl (psk 1 D rfl (Pb D rfl (Nb rfl ((ag) ⟨true, bp, rfl, Le.refl _ _, rfl, hm⟩)))))
      ·refine wak 3 D (mi rfl (Lw.eq rfl (mb rfl (bs hm (fun ah hm => ?_) fun ah hm => ?_))))
       ·exact wak 3 ah (mv U rfl (mv S rfl (ca hm (fun _ => p21 (K := [12, 13]) (e4.rd.sub (M := [12, 13]) rfl) ((((ez.up ae).up af).up bq).rd.sub (M := [12, 13]) rfl)) fun fb fc hm fd => wak 1 D (Pb ah rfl (Pb D rfl (Nb rfl ((ag) ⟨fb, fc, rfl, fd, rfl, hm⟩)))))))
       ·exact psk 3 ah rfl (wak 1 D (Pb ah rfl (Pb D rfl (Nb rfl ((ag) ⟨false, bp, rfl, Le.refl _ _, rfl, hm⟩)))))
  ·refine rg (mi rfl (mi rfl (Lw.ne rfl (mb rfl (bs hm (fun ai hm => ?_) fun ai hm => ?_)))))
   ·exact psk 4 ai rfl (Pb ai rfl (mb rfl (psk 2 rfl rfl (Pb rfl rfl (nl ((ag) ⟨true, cb, rfl, Le.refl _ _, rfl, hm⟩))))))
   ·refine wak 4 ai (la ax (la cc ?_))
    have fe := ar.up ((z.sub (M := [8]) rfl).trans (A.sub (M := [8]) rfl)) rfl
    have ff := au.up ((z.sub (M := [8]) rfl).trans (A.sub (M := [8]) rfl)) rfl
    refine ca hm (fun _ => p45 (K := [0, 2, 3, 5, 6]) (x0 := (Vm.Repo.mk f.1.Commits f.1.Heads)) ((Repo.rd (K := [5, 6]) f.1.Commits f.1.Heads (av.rd.sub (M := [5, 6]) rfl) (aw.rd.sub (M := [5, 6]) rfl)).sub (M := [0, 2, 3, 5, 6]) rfl) ((Repo.rd (K := [0, 2, 3]) H.1.Commits H.1.Heads fe ff).sub (M := [0, 2, 3, 5, 6]) rfl)) fun gd cw hm cx => Lw.r rfl (R.not rfl) (Pb ai rfl (mb rfl (bs hm (fun aj hm => ?_) fun aj hm => ?_)))
    ·exact psk 2 aj rfl (Pb aj rfl (nl ((ag) ⟨true, cw, rfl, cx, rfl, hm⟩)))
    ·exact wak 2 aj (mi rfl (Lw.ne rfl (Pb aj rfl (nl ((ag) ⟨((f.2 : Int) != (0 : Int)), cw, rfl, cx, rfl, hm⟩)))))
theorem p10 {x0 a r} (b : Rd W K [a] x0) (d : Gl 0 W K) (hm : Vm.ziG x0 = some r) : Q1 10 [a] W [] fun W' v => v = vB r :=
 (c10 (b.view _) (d.view _) hm).ad (fk 0) fun _ _ e => e
end Go.Sx
