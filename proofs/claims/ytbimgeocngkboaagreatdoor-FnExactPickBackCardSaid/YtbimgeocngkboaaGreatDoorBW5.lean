/- Walks: each function answers as its model, printed by a program of ours. Conditions: the arguments read as they are given. -/
import Derived.Test.YtbimgeocngkboaaGreatDoorBTs
import Derived.Test.YtbimgeocngkboaaGreatDoorBM0
import Derived.Test.YtbimgeocngkboaaGreatDoorBW3
import Derived.Test.YtbimgeocngkboaaGreatDoorBW4
import Derived.Test.YtbimgeocngkboaaGreatDoorBE
namespace Go.Sx
open Go Go.Proofs Go.Vm Rp
set_option linter.unusedVariables false
set_option linter.unusedSimpArgs false
variable {W W0 : CW} {K : List Nat}
theorem c141_142 {x0 C x1 D x2 E r} (h0 : Rd W0 [0] [C] x0) (h1 : Rd W0 [0] [D] x1) (h2 : Rd W0 [0] [E] x2) (hm : Vm.impl_merged_at_impl_MergeText_c1 x0 x1 x2 = some r) : Q0 141 [C, D, E, .func (.func 142) #[] [].toArray] W0 fun Wf v => ∃ u0, v = .tuple [u0, vB r.2].toArray ∧ OwS Wf LL [] [u0] r.1 := by
 unfold Vm.impl_merged_at_impl_MergeText_c1 at hm
 refine CallR.of Tryz.func141 rfl rfl rfl rfl (sr (Gv (.slice none 0 0) rfl (Nb rfl (ssr (mv C rfl (mv D rfl (mv E rfl (ca hm (fun _ => p160 h0 h1 h2) fun z1 W3 hm l3 => ?_))))))))
 have i := l3.o
 refine Lw.r rfl (R.not rfl) (nl (cn hm (fun hm => ?_) fun hm => ?_))
 ·refine sr (Gv (.slice none 0 0) rfl (Nb rfl ?_))
  cases hm
  exact Cw.ret (ret2 rfl rfl (Res.mk i ⟨.slice none 0 0, rfl, (owsN []).sub rfl rfl⟩))
 ·refine sk (sr (Nv (.slice none 0 0) rfl (ssr (mv C rfl (mv D rfl (mv E rfl (cr hm (fun _ => p161 (k0 := 2) (h0.ul i) (h1.ul i) (h2.ul i)) ?_)))))))
  rintro O a3 b4 hm a5 ⟨_, rfl, aj⟩
  have a6 := i.n a5
  refine Lw.ln O aj.rd rfl (mi rfl (nl (Cw.block ?_)))
  obtain ⟨P, a7, a8, a9⟩ := dyeE _ 2
  rw [← a7]
  have ak : Rd (α := List Vm.Part) P [0] [a3] O := by rw [a9]; exact (aj.rd.dye 2).sub (M := [0]) rfl
  have am := a6.t a8
  obtain ⟨ba, bb, hm⟩ := jn_e hm
  refine Cw.loop 26 46 [8, 9, 10, 12, 13, 14, 15, 26] (fun m l w => ∃ k x Q F y b an ao S U z, CW.w z = w ∧ Le [6, 7, 8] P z ∧ l = [y, vB x, b, an, ao, S, U, vI F] ∧ Ow z 5 [] [y] k ∧ Ow z 6 [] [b] Q ∧ Vm.impl_merged_at_impl_MergeText_c1_l1 O ba m k x Q F = some r) _ ⟨([] : List Str), false, ([] : List Str), 0, .slice none 0 0, .slice none 0 0, undef, undef, undef, undef, P, rfl, Le.refl _ _, rfl, owN 5 [], owN 6 [], hm⟩ ?_
  rintro (_ | b5) _ _ σ ⟨k, x, Q, F, y, b, an, ao, S, U, z, rfl, ap, rfl, bc, V, hm⟩
  ·cases hm
  unfold Vm.impl_merged_at_impl_MergeText_c1_l1 at hm
  have G := ap.s
  refine sr (Lw.lt rfl (nl (Cw.seq (cn hm (fun hm => ?_) fun hm => ?_))))
  ·refine sk (Cw.seq (Cw.block (sr ?_)))
   obtain ⟨d, aq, hm⟩ := ob hm
   refine Lw.r rfl (R.ix (α := Part) (ak.ul G) aq rfl rfl rfl) ?_
   obtain ⟨x36, c37, _, r38⟩ := ((ak.ul G).at_ aq).cells
   obtain ⟨W, be, bg, bh, rfl, r40, r42, r44, r46⟩ := Part.split r38
   refine Lw.r rfl (R.lda c37 rfl rfl) (al 7 [vB false, .slice none 0 0, .slice none 0 0, .slice none 0 0, .slice none 0 0] fun bi b6 H bj => ?_)
   have f := H.o
   refine sta bj (oc_cons rfl (oc_cons r40.oc (oc_cons r42.oc (oc_cons r44.oc (oc_cons r46.oc oc_nil))))) fun ar I X => ?_
   have h := I.s
   have au := (bc.up H).up I
   refine nl (sr (fl X rfl (Nv W rfl ?_)))
   obtain ⟨bk, bl, hm⟩ := jn_e hm
   refine Cw.join 32 42 [8, 9, 13, 14, 15] (fun l w => ∃ J L Y N A Z aa B, CW.w B = w ∧ Le [8] ar B ∧ l = [N, vB L, A, Z, aa] ∧ Ow B 5 [] [N] J ∧ Rd B [0] [A] Y ∧ bk J L Y = some r) ?_ ?_
   ·rintro _ _ σ ⟨J, L, Y, N, A, Z, aa, B, rfl, av, rfl, bm, r61, hm⟩
    rw [bl] at hm
    refine rg (mv b rfl (mv A rfl ?_))
    obtain ⟨bn, bp, hm⟩ := ob hm
    refine Lw.t rfl (T.appP (α := Str) (((V.up H).up I).up av) r61 rfl rfl bp) ?_
    rintro aw _ ⟨bq, rfl, ax, br⟩
    exact Nv aw rfl (rg (Lw.add rfl (mi rfl (nl ((agm) ⟨J, L, bn, w64 (F + 1), N, aw, ptr (bx bi), A, Z, aa, bq, rfl, ((((ap.j H).j I).j av).j ax).w, rfl, (bm.up ax), br, hm⟩)))))
   ·refine sr (fl X rfl (nl (cn hm (fun hm => ?_) fun hm => ?_)))
    ·refine sr (mv (.func (.func 142) #[] [].toArray) rfl (la X ?_))
     obtain ⟨e, bu, hm⟩ := ob hm
     refine Lw.t rfl (T.callV (vals := [.agg [vB d.Clash, W, be, bg, bh].toArray]) (caps := []) rfl rfl (p142 (k0 := 8) (Part.rd (K := [0]) d.Clash d.Lines d.Old d.One d.Two (r40.ul (f.trans h)) (r42.ul (f.trans h)) (r44.ul (f.trans h)) (r46.ul (f.trans h))) bu)) ?_
     rintro _ _ ⟨b7, rfl, ac, ⟨a, rfl, bv⟩⟩
     have bw := (((am.trans G).trans f).trans h).n ac
     refine mv (.tuple [a, vB e.2].toArray) rfl (Lw.r rfl (R.ext (vs := [a, vB e.2]) (v := a) rfl rfl) (Lw.r rfl (R.ext (vs := [a, vB e.2]) (v := vB e.2) rfl rfl) (Gv a rfl (Nb rfl (ssr (mb rfl (Lw.r rfl (R.not rfl) (nl (cn hm (fun hm => ?_) fun hm => ?_)))))))))
     ·refine sr (Gv (.slice none 0 0) rfl (Nb rfl ?_))
      cases hm
      exact Cw.ret (ret2 rfl rfl (Res.mk bw ⟨.slice none 0 0, rfl, (owsN []).sub rfl rfl⟩))
     ·refine sk (rg (mv a rfl (Nv a rfl ?_)))
      obtain ⟨ay, bz, az, b0⟩ := dyeE _ 8
      have b1 : Rd (α := List Str) ay [0] [a] e.1 := by rw [b0]; exact (bv.rd.dye 8).sub (M := [0]) rfl
      exact (ag) ⟨k, x, e.1, y, a, a, vB e.2, ay, bz, (ac.j az).w, rfl, ((au.up ac).up az), b1, hm⟩
    ·exact sk ((ag) ⟨k, x, d.Lines, y, W, S, U, ar, rfl, Le.refl _ _, rfl, au, (r40.ul (f.trans h)), hm⟩)
  ·refine Cw.exit ?_
   rw [bb] at hm
   refine ssr (mv b rfl (ca hm (fun _ => p84 (K := [6]) V.rd) fun b8 b9 hm a0 => ?_))
   have a1 := (am.trans G).n a0
   refine Lw.r rfl (R.not rfl) (nl (cn hm (fun hm => ?_) fun hm => ?_))
   ·refine sr (Gv (.slice none 0 0) rfl (Nb rfl ?_))
    cases hm
    exact Cw.ret (ret2 rfl rfl (Res.mk a1 ⟨.slice none 0 0, rfl, (owsN []).sub rfl rfl⟩))
   ·refine sk (sr (mv b rfl (Gv b rfl (Nb rfl ?_))))
    cases hm
    exact Cw.ret (ret2 rfl rfl (Res.mk a1 ⟨b, rfl, (V.up a0).s.sub rfl rfl⟩))
theorem p141_142 {x0 b x1 d x2 f k0 r} (h : Rd W K [b] x0) (i : Rd W K [d] x1) (k : Rd W K [f] x2) (hm : Vm.impl_merged_at_impl_MergeText_c1 x0 x1 x2 = some r) : Q1 141 [b, d, f, .func (.func 142) #[] [].toArray] W [] fun W' v => ∃ a, v = .tuple [a, vB r.2].toArray ∧ Ow W' k0 [] [a] r.1 :=
 (c141_142 (h.view _) (i.view _) (k.view _) hm).ad (fk k0) fun _ _ ⟨a, e, x⟩ => ⟨a, e, x.back (fk_LL _)⟩
theorem c127 {x0 b x1 d x2 e r} (i : Rd W0 [0] [b] x0) (k : Rd W0 [0] [d] x1) (x : Rd W0 [0] [e] x2) (hm : Vm.impl_MergeText x0 x1 x2 = some r) : Q0 127 [b, d, e] W0 fun Wf v => ∃ h, v = .tuple [h, vB r.2].toArray ∧ OwS Wf LL [] [h] r.1 := by
 unfold Vm.impl_MergeText at hm
 refine CallR.of Tryz.func127 rfl rfl rfl rfl (sr (Gv (.slice none 0 0) rfl (Nb rfl (sr (mv b rfl (mv d rfl (mv e rfl (cr hm (fun _ => p141_142 (k0 := 2) i k x) ?_))))))))
 rintro f _ B hm y ⟨a, rfl, z⟩
 have A := y.o
 refine Lw.r rfl (R.ext (vs := [a, vB f.2]) (v := a) rfl rfl) (Lw.r rfl (R.ext (vs := [a, vB f.2]) (v := vB f.2) rfl rfl) (Gv a rfl (Nb rfl ?_)))
 cases hm
 exact Cw.ret (ret2 rfl rfl (Res.mk A ⟨a, rfl, z.s.sub rfl rfl⟩))
theorem p127 {x0 b x1 d x2 f k0 r} (h : Rd W K [b] x0) (i : Rd W K [d] x1) (k : Rd W K [f] x2) (hm : Vm.impl_MergeText x0 x1 x2 = some r) : Q1 127 [b, d, f] W [] fun W' v => ∃ a, v = .tuple [a, vB r.2].toArray ∧ Ow W' k0 [] [a] r.1 :=
 (c127 (h.view _) (i.view _) (k.view _) hm).ad (fk k0) fun _ _ ⟨a, e, x⟩ => ⟨a, e, x.back (fk_LL _)⟩
theorem c108 {x0 h x1 I x2 J r} (h0 : Rd W0 [0] [h, vB x0.file] x0) (h1 : Rd W0 [0] [I, vB x1.file] x1) (h2 : Rd W0 [0] [J, vB x2.file] x2) (hm : Vm.impl_joinAt x0 x1 x2 = some r) : Q0 108 [.agg [h, vB x0.file].toArray, .agg [I, vB x1.file].toArray, .agg [J, vB x2.file].toArray] W0 fun Wf v => ∃ X, v = .tuple [.agg [X, vB r.1.file].toArray, vI r.2].toArray ∧ Rd Wf [0] [X] r.1.text := by
 unfold Vm.impl_joinAt at hm
 obtain ⟨b7, Y, b⟩ := has.split h0
 simp only [List.cons.injEq, and_true, true_and] at Y
 obtain rfl := Y
 obtain ⟨b8, Z, i⟩ := has.split h1
 simp only [List.cons.injEq, and_true, true_and] at Z
 obtain rfl := Z
 obtain ⟨b9, aa, k⟩ := has.split h2
 simp only [List.cons.injEq, and_true, true_and] at aa
 obtain rfl := aa
 refine CallR.of Tryz.func108 rfl rfl rfl rfl (sr (bo 2 rfl fun g1 W1 l1 b1 => ?_))
 have a2 := l1.o
 refine bo 3 rfl fun g3 W3 l3 b3 => ?_
 have a4 := a2.n l3
 refine bo 4 rfl fun g6 W6 L b6 => ?_
 have a7 := a4.n L
 refine al 5 [.slice none 0 0, vB false] fun ch a6 l10 af => ?_
 have D := a7.n l10
 have N := ((b1.up l3).up L).up l10
 have O := (b3.up L).up l10
 refine Ni rfl (Cw.seq (Cw.block ?_))
 obtain ⟨a8, a9, hm⟩ := jn_e hm
 refine Cw.join 10 18 [10] (fun l w => ∃ P Q, CW.w Q = w ∧ Le [] a6 Q ∧ l = [vB P] ∧ a8 P = some r) ?_ ?_
 ·rintro _ _ σ ⟨P, Q, rfl, d, rfl, hm⟩
  rw [a9] at hm
  have E := D.n d
  have F := (b6.up l10).up d
  refine cn hm (fun hm => ?_) fun hm => ?_
  ·refine sr (la F (sta (af.up d) (oc_cons k.oc (oc_cons rfl oc_nil)) fun ci ba bb => ?_))
   have ah := E.t ba
   refine Ni rfl ?_
   cases hm
   exact Cw.ret (retA2 rfl bb rfl (Res.mk ah ⟨J, rfl, (k.ul ah)⟩))
  ·refine sr (la F (la (N.up d) (ca hm (fun _ => p126 (has.rd (K := [0]) x2.text x2.file (k.ul E)) (has.rd (K := [0]) x0.text x0.file (b.ul E))) fun cj S hm e => ?_)))
   have ai := E.n e
   have T := (O.up d).up e
   have aj := (af.up d).up e
   refine Nb rfl (cn hm (fun hm => ?_) fun hm => ?_)
   ·refine sr (la T (sta aj (oc_cons i.oc (oc_cons rfl oc_nil)) fun ck bc be => ?_))
    have ak := ai.t bc
    refine Ni rfl ?_
    cases hm
    exact Cw.ret (retA2 rfl be rfl (Res.mk ak ⟨I, rfl, (i.ul ak)⟩))
   ·obtain ⟨bg, bh, hm⟩ := jn_e hm
    refine Cw.join 25 33 [25] (fun l w => ∃ U V, CW.w V = w ∧ Le [] S V ∧ l = [vB U] ∧ bg U = some r) ?_ ?_
    ·rintro _ _ σ ⟨U, V, rfl, x, rfl, hm⟩
     rw [bh] at hm
     have f := ai.n x
     have y := ((N.up d).up e).up x
     have G := aj.up x
     refine cn hm (fun hm => ?_) fun hm => ?_
     ·refine sr (la y (sta G (oc_cons b.oc (oc_cons rfl oc_nil)) fun cl bi bj => ?_))
      have am := f.t bi
      refine Ni rfl ?_
      cases hm
      exact Cw.ret (retA2 rfl bj rfl (Res.mk am ⟨h, rfl, (b.ul am)⟩))
     ·refine sr (fl y rfl (Lw.r rfl (R.not rfl) (Nb rfl (cn hm (fun hm => ?_) fun hm => ?_))))
      ·refine sr (la y (sta G (oc_cons b.oc (oc_cons rfl oc_nil)) fun cm bk bl => ?_))
       have an := f.t bk
       refine Ni rfl ?_
       cases hm
       exact Cw.ret (retA2 rfl bl rfl (Res.mk an ⟨h, rfl, (b.ul an)⟩))
      ·refine sk (sr (fl y rfl (fl (T.up x) rfl (fl ((F.up e).up x) rfl (cr hm (fun _ => p127 (k0 := 6) (b.ul f) (i.ul f) (k.ul f)) ?_)))))
       rintro z _ co hm H ⟨a, rfl, W⟩
       have ao := f.n H
       refine mv (.tuple [a, vB z.2].toArray) rfl (Lw.r rfl (R.ext (vs := [a, vB z.2]) (v := a) rfl rfl) (Lw.r rfl (R.ext (vs := [a, vB z.2]) (v := vB z.2) rfl rfl) (Gv a rfl (Nb rfl (ssr (mb rfl (Lw.r rfl (R.not rfl) (nl (cn hm (fun hm => ?_) fun hm => ?_)))))))))
       ·refine sr (la (y.up H) (sta (G.up H) (oc_cons b.oc (oc_cons rfl oc_nil)) fun cp bm bn => ?_))
        have ap := ao.t bm
        refine Ni rfl ?_
        cases hm
        exact Cw.ret (retA2 rfl bn rfl (Res.mk ap ⟨h, rfl, (b.ul ap)⟩))
       ·refine sk (sr (mv a rfl (Lw.r rfl (R.bd (zs := [.slice none 0 0, vB false]) (cs := [a, vB true]) [(0, a), (1, vB true)] rfl rfl rfl (bp_cons W.oc rfl (bp_cons rfl rfl bp_nil))) (sta (G.up H) (oc_cons W.oc (oc_cons rfl oc_nil)) fun cq aq bp => ?_))))
        have bq := ao.t aq
        refine Ni rfl ?_
        obtain ⟨br, bu, ar, bv⟩ := dyeE _ 6
        have bw : Rd (α := List Str) br [0] [a] z.1 := by rw [bv]; exact ((W.up aq).rd.dye 6).sub (M := [0]) rfl
        have bz := bq.t ar
        cases hm
        rw [← bu]
        exact Cw.ret (retA2 rfl (bp.up ar) rfl (Res.mk bz ⟨a, rfl, bw⟩))
    ·refine rg (fl T rfl (Lw.r rfl (R.not rfl) (mb rfl (bs hm (fun A hm => ?_) fun A hm => ?_))))
     ·exact psk 3 A rfl (Pb A rfl (Nb rfl ((ag) ⟨true, S, rfl, Le.refl _ _, rfl, hm⟩)))
     ·exact wak 3 A (fl (F.up e) rfl (Lw.r rfl (R.not rfl) (Pb A rfl (Nb rfl ((ag) ⟨(!x2.file), S, rfl, Le.refl _ _, rfl, hm⟩)))))
 ·refine rg (la O (la N (ca hm (fun _ => p126 (has.rd (K := [0]) x1.text x1.file (i.ul D)) (has.rd (K := [0]) x0.text x0.file (b.ul D))) fun ct b0 hm B => ?_)))
  have au := D.n B
  refine mb rfl (bs hm (fun C hm => ?_) fun C hm => ?_)
  ·exact psk 3 C rfl (Pb C rfl (Nb rfl ((ag) ⟨true, b0, rfl, B, rfl, hm⟩)))
  ·exact wak 3 C (la (O.up B) (la ((b6.up l10).up B) (ca hm (fun _ => p126 (has.rd (K := [0]) x1.text x1.file (i.ul au)) (has.rd (K := [0]) x2.text x2.file (k.ul au))) fun b2 b4 hm b5 => Pb C rfl (Nb rfl ((ag) ⟨b2, b4, rfl, (B.j b5).w, rfl, hm⟩)))))
theorem p108 {x0 b x1 d x2 f r} (h : Rd W K [b, vB x0.file] x0) (i : Rd W K [d, vB x1.file] x1) (k : Rd W K [f, vB x2.file] x2) (hm : Vm.impl_joinAt x0 x1 x2 = some r) : Q1 108 [.agg [b, vB x0.file].toArray, .agg [d, vB x1.file].toArray, .agg [f, vB x2.file].toArray] W [] fun W' v => ∃ a, v = .tuple [.agg [a, vB r.1.file].toArray, vI r.2].toArray ∧ Rd W' (0 :: K) [a] r.1.text :=
 (c108 (h.view _) (i.view _) (k.view _) hm).ad (fk 0) fun _ _ ⟨a, e, x⟩ => ⟨a, e, x.back rfl⟩
theorem c90 {x0 z x1 B x2 C r} (L : Rd W0 [0] [z] x0) (h1 : Rd W0 [0] [B] x1) (h2 : Rd W0 [0] [C] x2) (bb : Gl 0 W0 [0]) (hm : Vm.impl_JoinOf x0 x1 x2 = some r) : Q0 90 [z, B, C] W0 fun Wf v => ∃ u0 u1, v = .tuple [u0, u1].toArray ∧ OwS (α := List (Sh Vm.File)) Wf [31] [0] [u0] r.1 ∧ OwS Wf [32] [] [u1] r.2 := by
 unfold Vm.impl_JoinOf at hm
 refine CallR.of Tryz.func90 rfl rfl rfl rfl (sr (Gv (.slice none 0 0) rfl (Nv (.slice none 0 0) rfl (ssr (mv z rfl (mv B rfl (mv C rfl (ca hm (fun _ => p89 L h1 h2 bb) fun z1 W3 hm l3 => ?_))))))))
 have N := l3.o
 refine Lw.r rfl (R.not rfl) (nl (cn hm (fun hm => ?_) fun hm => ?_))
 ·refine sr (Gv (.slice none 0 0) rfl (Nv (.slice none 0 0) rfl ?_))
  cases hm
  exact Cw.ret (ret2 rfl rfl (Res.mk N ⟨.slice none 0 0, .slice none 0 0, rfl, (owsNSh [0]).sub rfl rfl, (owsN []).sub rfl rfl⟩))
 ·refine sk (sr (Nv (.slice none 0 0) rfl (sr (Nv (.slice none 0 0) rfl (ssr (mv z rfl (mv B rfl (mv C rfl (Lw.t rfl (T.bsS (α := Sh (List File)) (xs := [x0, x1, x2]) 2 [0] (W := W3) [z, B, C] (bsE [[z], [B], [C]] (mapc L.oc (mapc h1.oc (mapc h2.oc mapn))) (Each.cons ((L.ul N).sh1) (Each.cons ((h1.ul N).sh1) (Each.cons ((h2.ul N).sh1) Each.nil)))) rfl) ?_)))))))))
  rintro v9 _ ⟨W9, rfl, l9, o9⟩
  have cj := N.n l9
  have ck : Rd (α := List (List Vm.File)) W9 [2, 0] [v9] ([x0, x1, x2] : List (List File)) := Ow.rdSh o9
  refine cr hm (fun _ => p107 (K := [0, 2]) (k0 := 3) (ck.sub (M := [0, 2]) rfl)) ?_
  rintro bg ej bh hm cl ⟨_, rfl, au⟩
  have cm := cj.n cl
  refine Lw.ln bg au.rd rfl (mi rfl (nl (Cw.block ?_)))
  obtain ⟨co, cp, hm⟩ := jn_e hm
  refine Cw.loop 25 59 [8, 9, 11, 12, 13, 25] (fun m l w => ∃ (F : List Vm.File) (O : List Vm.Clash) (af : Int) (d h bi bj bk : Value) (i : CW), i.w = w ∧ Le [4, 5, 6, 7, 8, 9] bh i ∧ l = [d, h, bi, bj, bk, vI af] ∧ Ow (α := List (Sh Vm.File)) i 4 [0] [d] F ∧ Ow i 5 [] [h] O ∧ Vm.impl_JoinOf_l1 x0 x1 x2 bg co m F O af = some r) _ ⟨([] : List File), ([] : List Clash), 0, .slice none 0 0, .slice none 0 0, undef, undef, undef, bh, rfl, Le.refl _ _, rfl, owNSh 4 [0], owN 5 [], hm⟩ ?_
  rintro (_ | ek) _ _ σ ⟨F, O, af, d, h, bi, bj, bk, i, rfl, ah, rfl, av, aw, hm⟩
  ·cases hm
  unfold Vm.impl_JoinOf_l1 at hm
  have ai := cm.t ah
  refine sr (Lw.lt rfl (nl (Cw.seq (cn hm (fun hm => ?_) fun hm => ?_))))
  ·refine sk ?_
   obtain ⟨cq, ct, hm⟩ := jn_e hm
   refine Cw.join 27 58 [8, 9, 11, 12, 13] (fun l w => ∃ (aj : List Vm.File) (ak : List Vm.Clash) (am an ax ay az : Value) (G : CW), G.w = w ∧ Le [4, 5, 6, 7, 8, 9] i G ∧ l = [am, an, ax, ay, az] ∧ Ow (α := List (Sh Vm.File)) G 4 [0] [am] aj ∧ Ow G 5 [] [an] ak ∧ cq aj ak = some r) ?_ ?_
   ·rintro _ _ σ ⟨aj, ak, am, an, ax, ay, az, G, rfl, cu, rfl, cv, cw, hm⟩
    rw [ct] at hm
    exact rg (Lw.add rfl (mi rfl (nl ((agm) ⟨aj, ak, w64 (af + 1), am, an, ax, ay, az, G, rfl, (ah.j cu).w, rfl, cv, cw, hm⟩))))
   ·refine Cw.block (sr ?_)
    obtain ⟨b, bl, hm⟩ := ob hm
    refine Lw.r rfl (R.ix (α := Str) (au.up ah).rd bl rfl rfl rfl) (Lw.r rfl (R.ld rfl rfl ((au.up ah).rd.at_ bl).str) (Ns rfl (sr (mv z rfl (ms rfl (cr hm (fun _ => p109 (k0 := 6) (L.ul ai)) ?_))))))
    rintro P _ el hm Q ⟨cx, rfl, cy⟩
    have bm := ai.n Q
    refine mv B rfl (ms rfl (cr hm (fun _ => p109 (k0 := 7) (h1.ul bm)) ?_))
    rintro S _ em hm H ⟨cz, rfl, bn⟩
    have c0 := bm.n H
    refine mv C rfl (ms rfl (cr hm (fun _ => p109 (k0 := 8) (h2.ul c0)) ?_))
    rintro U _ en hm D ⟨c1, rfl, bp⟩
    have bq := (cy.up H).up D
    refine cr hm (fun _ => p108 (K := [6, 7, 8]) (x0 := (Vm.has.mk P.text P.file)) (x1 := (Vm.has.mk S.text S.file)) (x2 := (Vm.has.mk U.text U.file)) ((has.rd (K := [6]) P.text P.file bq.rd).sub (M := [6, 7, 8]) rfl) ((has.rd (K := [7]) S.text S.file (bn.up D).rd).sub (M := [6, 7, 8]) rfl) ((has.rd (K := [8]) U.text U.file bp.rd).sub (M := [6, 7, 8]) rfl)) ?_
    rintro a _ eo hm E ⟨e, rfl, c2⟩
    have ao := c2.sub (M := [0, 6, 7, 8]) rfl
    refine mv (.tuple [.agg [e, vB a.1.file].toArray, vI a.2].toArray) rfl (Lw.r rfl (R.ext (vs := [.agg [e, vB a.1.file].toArray, vI a.2]) (v := .agg [e, vB a.1.file].toArray) rfl rfl) (Lw.r rfl (R.ext (vs := [.agg [e, vB a.1.file].toArray, vI a.2]) (v := vI a.2) rfl rfl) (al 9 [.slice none 0 0, vB false] fun br ep k c3 => sta c3 (oc_cons ao.oc (oc_cons rfl oc_nil)) fun bu y bv => ?_)))
    have bw := (((((aw.up Q).up H).up D).up E).up k).up y
    refine Ni rfl ?_
    obtain ⟨c4, c5, hm⟩ := jn_e hm
    refine Cw.join 42 49 [9] (fun l w => ∃ V X Y, CW.w Y = w ∧ Le [5] bu Y ∧ l = [X] ∧ Ow Y 5 [] [X] V ∧ c4 V = some r) ?_ ?_
    ·rintro _ _ σ ⟨V, X, Y, rfl, f, rfl, bz, hm⟩
     rw [c5] at hm
     have b0 := ((((((av.up Q).up H).up D).up E).up k).up y).up f
     refine sr (fl (bv.up f) rfl (nl (cn hm (fun hm => ?_) fun hm => ?_)))
     ·refine rg (mv d rfl (ms rfl (fl (bv.up f) rfl (Lw.r rfl (R.bd (zs := [vS ([] : Str), .slice none 0 0]) (cs := [vS b, e]) [(0, vS b), (1, e)] rfl rfl rfl (bp_cons rfl rfl (bp_cons ao.oc rfl bp_nil))) (Lw.t rfl (T.bs 10 [.agg [vS b, e].toArray] (cs := [vS b, e]) rfl rfl (bsA rfl)) ?_)))))
      rintro _ _ ⟨er, c6, rfl, rfl, A, c7⟩
      have c8 := ao.up ((k.sub (M := [5, 9]) rfl).trans ((y.sub (M := [5, 9]) rfl).trans ((f.sub (M := [5, 9]) rfl).trans (A.sub (M := [5, 9]) rfl)))) rfl
      have c9 : Ow (α := List (Sh Vm.File)) c6 4 [0, 6, 7, 8] [d] F := (b0.up A).sub rfl
      obtain ⟨ap, da, hm⟩ := ob hm
      refine Lw.t rfl (T.app1S (α := Sh Vm.File) (K' := [0, 6, 7, 8]) c9 c7 (File.rd (K := [0, 6, 7, 8]) b a.1.text c8).sh1 rfl rfl da) ?_
      rintro Z _ ⟨es, rfl, I, db⟩
      refine Nv Z rfl ?_
      have dc := ao.up ((k.sub (M := [4, 5, 9]) rfl).trans ((y.sub (M := [4, 5, 9]) rfl).trans ((f.sub (M := [4, 5, 9]) rfl).trans ((A.sub (M := [4, 5, 9]) rfl).trans (I.sub (M := [4, 5, 9]) rfl))))) rfl
      obtain ⟨a0, dd, aq, a1⟩ := dyeE _ 6
      have de : Rd a0 [0, 7, 8] [e] a.1.text := by rw [a1]; exact (dc.dye 6).sub (M := [0, 7, 8]) rfl
      have df : Ow (α := List (Sh Vm.File)) a0 4 [0, 7, 8] [Z] ap := by rw [a1]; exact (db.dyeA 6 rfl).sub rfl
      have et : Rd (α := List Str) a0 [0] [cx] P.text := by rw [a1]; exact (((((((bq.up E).up k).up y).up f).up A).up I).rd.dye 6).sub (M := [0]) rfl
      obtain ⟨a2, dg, a3, a5⟩ := dyeE _ 7
      have dh : Rd a2 [0, 8] [e] a.1.text := by rw [a5]; exact (de.dye 7).sub (M := [0, 8]) rfl
      have di : Ow (α := List (Sh Vm.File)) a2 4 [0, 8] [Z] ap := by rw [a5]; exact (df.dyeA 7 rfl).sub rfl
      have eu : Rd (α := List Str) a2 [0] [cz] S.text := by rw [a5]; exact (((((((((bn.up D).up E).up k).up y).up f).up A).up I).up aq).rd.dye 7).sub (M := [0]) rfl
      obtain ⟨ar, dj, b1, a6⟩ := dyeE _ 8
      have ew : Rd ar [0] [e] a.1.text := by rw [a6]; exact (dh.dye 8).sub (M := [0]) rfl
      have dk : Ow (α := List (Sh Vm.File)) ar 4 [0] [Z] ap := by rw [a6]; exact (di.dyeA 8 rfl).sub rfl
      have ex : Rd (α := List Str) ar [0] [c1] U.text := by rw [a6]; exact (((((((((bp.up E).up k).up y).up f).up A).up I).up aq).up a3).rd.dye 8).sub (M := [0]) rfl
      exact (ag) ⟨ap, V, Z, X, vS b, ptr (bx br), vI a.2, ar, dj.trans (dg.trans (dd)), (((((((((((Q.j H).j D).j E).j k).j y).j f).j A).j I).j aq).j a3).j b1).w, rfl, dk, (((((bz.up A).up I).up aq).up a3).up b1), hm⟩
     ·exact sk ((ag) ⟨F, V, d, X, vS b, ptr (bx br), vI a.2, Y, rfl, ((((((Q.j H).j D).j E).j k).j y).j f).w, rfl, b0, bz, hm⟩)
    ·refine sr (mi rfl (Lw.ne rfl (nl (cn hm (fun hm => ?_) fun hm => ?_))))
     ·refine rg (mv h rfl (ms rfl (mi rfl (Lw.r rfl (R.bd (zs := [vS ([] : Str), vI 0]) (cs := [vS b, vI a.2]) [(0, vS b), (1, vI a.2)] rfl rfl rfl (bp_cons rfl rfl (bp_cons rfl rfl bp_nil))) (Lw.t rfl (T.bs 11 [.agg [vS b, vI a.2].toArray] (cs := [vS b, vI a.2]) rfl rfl (bsA rfl)) ?_)))))
      rintro _ _ ⟨ey, ez, rfl, rfl, b2, dl⟩
      obtain ⟨dm, dn, hm⟩ := ob hm
      refine Lw.t rfl (T.app1S (α := Clash) (K' := []) (bw.up b2) dl (Clash.rd (K := []) b a.2) rfl rfl dn) ?_
      rintro b3 _ ⟨dp, rfl, dq, dr⟩
      exact Nv b3 rfl ((ag) ⟨dm, b3, dp, rfl, (b2.j dq).w, rfl, dr, hm⟩)
     ·exact sk ((ag) ⟨O, h, bu, rfl, Le.refl _ _, rfl, bw, hm⟩)
  ·refine Cw.exit ?_
   rw [cp] at hm
   refine Cw.seq ?_
   obtain ⟨ds, dt, hm⟩ := jn_e hm
   refine Cw.join 60 67 [67] (fun l w => ∃ a7 a8, CW.w a8 = w ∧ Le [] i a8 ∧ l = [vB a7] ∧ ds a7 = some r) ?_ ?_
   ·rintro _ _ σ ⟨a7, a8, rfl, a9, rfl, hm⟩
    rw [dt] at hm
    have ba := ai.n a9
    refine cn hm (fun hm => ?_) fun hm => ?_
    ·refine sr (mv z rfl (cr hm (fun _ => p87 (k0 := 12) (L.ul ba)) ?_))
     rintro e0 b4 e1 hm du ⟨_, rfl, dv⟩
     have dw := ba.n du
     refine Lw.r rfl (R.bd (zs := [vS ([] : Str), vI 0]) (cs := [vS ([] : Str), vI 4]) [(1, vI 4)] rfl rfl rfl (bp_cons rfl rfl bp_nil)) (Lw.t rfl (T.bsO (α := Clash) (J := []) (xs := [Vm.Clash.mk ([] : Str) 4]) 13 [.agg [vS ([] : Str), vI 4].toArray] (bsL [[vS ([] : Str), vI 4]] (mapa rfl mapn) (OwL.cons (x := (Vm.Clash.mk ([] : Str) 4)) (OwS.atm (K := []) (Clash.rd (K := []) ([] : Str) 4)) OwL.nil)) rfl) ?_)
     rintro b5 _ ⟨e2, rfl, b6, dx⟩
     have dy := dw.n b6
     refine Gv b4 rfl (Nv b5 rfl ?_)
     obtain ⟨e3, dz, b7, d0⟩ := (dv.up b6).toSh
     have d1 := dy.t b7
     obtain ⟨e4, d2, b8, d3⟩ := d0.dyeO 31
     have d4 := d1.t b8
     obtain ⟨e5, d5, b9, d6⟩ := ((dx.up b7).up b8).dyeO 32
     have d7 := d4.t b9
     cases hm
     rw [← d5.trans (d2.trans (dz))]
     exact Cw.ret (ret2 rfl rfl (Res.mk d7 ⟨b4, b5, rfl, (d3.up b9).s, d6.s⟩))
    ·refine sk (sr (mv d rfl (mv h rfl (Gv d rfl (Nv h rfl ?_)))))
     obtain ⟨e6, d8, cb, d9⟩ := (av.up a9).dyeO 31
     have ea := ba.t cb
     obtain ⟨e7, eb, cc, ec⟩ := ((aw.up a9).up cb).dyeO 32
     have ed := ea.t cc
     cases hm
     rw [← eb.trans (d8)]
     exact Cw.ret (ret2 rfl rfl (Res.mk ed ⟨d, h, rfl, (d9.up cc).s, ec.s⟩))
   ·refine rg (mv h rfl (Lw.ln O aw.rd rfl (Lw.eq rfl (mb rfl (bs hm (fun aa hm => ?_) fun aa hm => ?_)))))
    ·refine wak 3 aa (mv d rfl ?_)
     have ee : Rd (α := List Vm.File) i [4, 0] [d] F := Ow.rdSh av
     exact ca hm (fun _ => p51 (K := [0, 4]) (ee.sub (M := [0, 4]) rfl) ((bb.ul ai).sub (M := [0, 4]) rfl)) fun ef eg hm eh => Lw.r rfl (R.not rfl) (Pb aa rfl (nl ((ag) ⟨(!ef), eg, rfl, eh, rfl, hm⟩)))
    ·exact psk 3 aa rfl (Pb aa rfl (nl ((ag) ⟨false, i, rfl, Le.refl _ _, rfl, hm⟩)))
theorem p90 {x0 d x1 f x2 h k0 k1 r} (i : Rd W K [d] x0) (k : Rd W K [f] x1) (x : Rd W K [h] x2) (y : Gl 0 W K) (hm : Vm.impl_JoinOf x0 x1 x2 = some r) : Q1 90 [d, f, h] W [] fun W' v => ∃ a b, v = .tuple [a, b].toArray ∧ Ow (α := List (Sh Vm.File)) W' k0 (0 :: K) [a] r.1 ∧ Ow W' k1 [] [b] r.2 :=
 CallR.adJ (J := []) (fun c => bif Nat.beq c 0 then 0 else bif Nat.beq c 31 then k0 else bif Nat.beq c 32 then k1 else 0) (c90 (i.view _) (k.view _) (x.view _) (y.view _) hm) fun _ _ ⟨a, b, e, z, A⟩ => ⟨a, b, e, z.one1.backNS rfl rfl, A.one1.backN rfl⟩
theorem c59 {x0 e x1 f x2 h r} (i : Rd W0 [0] [e] x0) (k : Rd W0 [0] [f] x1) (x : Rd W0 [0] [h] x2) (y : Gl 0 W0 [0]) (hm : Vm.impl_JoinTree x0 x1 x2 = some r) : Q0 59 [e, f, h] W0 fun Wf v => ∃ z, v = .tuple [z, vB r.2].toArray ∧ OwS (α := List (Sh Vm.File)) Wf LL [0] [z] r.1 := by
 unfold Vm.impl_JoinTree at hm
 refine CallR.of Tryz.func59 rfl rfl rfl rfl (sr (Gv (.slice none 0 0) rfl (Nb rfl (ssr (mv e rfl (mv f rfl (mv h rfl (ca hm (fun _ => p89 i k x y) fun I J hm C => ?_))))))))
 have b := C.o
 refine Lw.r rfl (R.not rfl) (nl (cn hm (fun hm => ?_) fun hm => ?_))
 ·refine sr (Gv (.slice none 0 0) rfl (Nb rfl ?_))
  cases hm
  exact Cw.ret (ret2 rfl rfl (Res.mk b ⟨.slice none 0 0, rfl, (owsNSh [0]).sub rfl rfl⟩))
 ·refine sk (sr (mv e rfl (mv f rfl (mv h rfl (cr hm (fun _ => p90 (k0 := 2) (k1 := 3) (i.ul b) (k.ul b) (x.ul b) (y.ul b)) ?_)))))
  rintro A _ D hm E ⟨a, d, rfl, F, G⟩
  have H : Ow (α := List (Sh Vm.File)) D 2 [0] [a] A.1 := F.sub rfl
  have B := b.n E
  refine mv (.tuple [a, d].toArray) rfl (Lw.r rfl (R.ext (vs := [a, d]) (v := a) rfl rfl) (Lw.r rfl (R.ext (vs := [a, d]) (v := d) rfl rfl) (Gv a rfl (Nv d rfl (ssr (mv d rfl (Lw.ln A.2 G.rd rfl (Lw.gt rfl (nl (cn hm (fun hm => ?_) fun hm => ?_))))))))))
  ·refine sr (Gv (.slice none 0 0) rfl (Nb rfl ?_))
   cases hm
   exact Cw.ret (ret2 rfl rfl (Res.mk B ⟨.slice none 0 0, rfl, (owsNSh [0]).sub rfl rfl⟩))
  ·refine sk (sr (mv a rfl (Gv a rfl (Nb rfl ?_))))
   cases hm
   exact Cw.ret (ret2 rfl rfl (Res.mk B ⟨a, rfl, H.s.sub rfl rfl⟩))
theorem p59 {x0 b x1 d x2 f k0 r} (h : Rd W K [b] x0) (i : Rd W K [d] x1) (k : Rd W K [f] x2) (x : Gl 0 W K) (hm : Vm.impl_JoinTree x0 x1 x2 = some r) : Q1 59 [b, d, f] W [] fun W' v => ∃ a, v = .tuple [a, vB r.2].toArray ∧ Ow (α := List (Sh Vm.File)) W' k0 (0 :: K) [a] r.1 :=
 (c59 (h.view _) (i.view _) (k.view _) (x.view _) hm).ad (fk k0) fun _ _ ⟨a, e, y⟩ => ⟨a, e, y.backS (fk_LL _) rfl⟩
theorem c88 {x0 d x1 r} (i : Rd W0 [0] [d] x0) (h1 : Rd W0 [0] [vS x1.Name, vI x1.At] x1) (hm : Vm.impl_insertHead x0 x1 = some r) : Q0 88 [d, .agg [vS x1.Name, vI x1.At].toArray] W0 fun Wf v => ∃ P, v = P ∧ OwS Wf LL [] [P] r := by
 unfold Vm.impl_insertHead at hm
 refine CallR.of Tryz.func88 rfl rfl rfl rfl (sr (bo 2 rfl fun g1 Q l1 S => ?_))
 have U := l1.o
 refine Nv (.slice none 0 0) rfl (sr (mv d rfl (Lw.ln x0 (i.ul U) rfl (Ni rfl (Cw.seq (Cw.block ?_))))))
 obtain ⟨K6, ao, hm⟩ := jn_e hm
 refine Cw.loop 8 22 [5] (fun m l w => ∃ b y, CW.w y = w ∧ Le [] Q y ∧ l = [vI b] ∧ Vm.impl_insertHead_l1 x0 x1 K6 m b = some r) _ ⟨(x0.length : Int), Q, rfl, Le.refl _ _, rfl, hm⟩ ?_
 rintro (_ | m7) _ _ σ ⟨b, y, rfl, z, rfl, hm⟩
 ·cases hm
 unfold Vm.impl_insertHead_l1 at hm
 have V := U.n z
 refine Cw.seq ?_
 obtain ⟨ap, aq, hm⟩ := jn_e hm
 refine Cw.join 8 20 [20] (fun l w => ∃ E A, CW.w A = w ∧ Le [] y A ∧ l = [vB E] ∧ ap E = some r) ?_ ?_
 ·rintro _ _ σ ⟨E, A, rfl, F, rfl, hm⟩
  rw [aq] at hm
  have ar := V.n F
  refine cn hm (fun hm => ?_) fun hm => ?_
  ·exact sk (Cw.block (rg (mi rfl (Lw.sub rfl (Ni rfl ((agm) ⟨w64 (b - 1), A, rfl, (z.j F).w, rfl, hm⟩))))))
  ·refine Cw.exit ?_
   rw [ao] at hm
   refine Cw.seq ?_
   obtain ⟨B, au, hm⟩ := ob hm
   obtain ⟨k, av, hm⟩ := ob hm
   refine Cw.par [[], [], [0, 1], [], [], [4], [0, 1, 2, 3, 4, 5], [0, 1, 2, 3, 4, 5, 6]] [[], [], [0, 1], [], [], [4], [2, 3, 5], [6]] [[], [], [3], [], [], [], [3], []] [[0], [1], [2], [3], [4], [5], [6], [6, 7]] [[3], [], [3], [], [], [4], [5], []] [1, 3, 4, 5, 6, 7] [3] [fun vs W => Ow W 3 [] [(vs 0)] ([] : List Head), fun vs W => (vs 1) = d, fun vs W => Ow W 3 [] [(vs 2)] B, fun vs W => (vs 3) = vI b, fun vs W => (vs 4) = .agg [vS x1.Name, vI x1.At].toArray, fun vs W => (vs 5) = .slice (some (bx (pg (vs 5)))) 1 1 ∧ Bx W 4 (pg (vs 5)) [vS x1.Name, vI x1.At], fun vs W => Ow W 5 [] [(vs 6)] k, fun vs W => (vs 7) = (vs 6)] [] mixed (by kernel_rfl) rfl AllF.nil ?_
   intro b8 Y
   have Z := ar.n Y
   refine ⟨(Steps.cons ?_ (Steps.cons ?_ (Steps.cons ?_ (Steps.cons ?_ (Steps.cons ?_ (Steps.cons ?_ (Steps.cons ?_ (Steps.cons ?_ Steps.nil)))))))), (Sups.cons (fun vs vs' W W' _ hv l hd h => by (show Ow W' 3 [] [(vs' 0)] ([] : List Head)); rw [hv 0 (anyb rfl)]; exact h.upv l (disj_mem hd (c := 3) rfl)) (Sups.cons (fun vs vs' W W' _ hv l hd h => by (show (vs' 1) = d); rw [hv 1 (anyb rfl)]; exact h) (Sups.cons (fun vs vs' W W' _ hv l hd h => by (show Ow W' 3 [] [(vs' 2)] B); rw [hv 2 (anyb rfl)]; exact h.upv l (disj_mem hd (c := 3) rfl)) (Sups.cons (fun vs vs' W W' _ hv l hd h => by (show (vs' 3) = vI b); rw [hv 3 (anyb rfl)]; exact h) (Sups.cons (fun vs vs' W W' _ hv l hd h => by (show (vs' 4) = .agg [vS x1.Name, vI x1.At].toArray); rw [hv 4 (anyb rfl)]; exact h) (Sups.cons (fun vs vs' W W' _ hv l hd h => by (show (vs' 5) = .slice (some (bx (pg (vs' 5)))) 1 1 ∧ Bx W' 4 (pg (vs' 5)) [vS x1.Name, vI x1.At]); rw [hv 5 (anyb rfl)]; exact ⟨h.1, h.2.up l (disj_mem hd (c := 4) rfl)⟩) (Sups.cons (fun vs vs' W W' _ hv l hd h => by (show Ow W' 5 [] [(vs' 6)] k); rw [hv 6 (anyb rfl)]; exact h.upv l (disj_mem hd (c := 5) rfl)) (Sups.cons (fun vs vs' W W' _ hv l hd h => by (show (vs' 7) = (vs' 6)); rw [hv 6 (anyb rfl), hv 7 (anyb rfl)]; exact h) Sups.nil)))))))), ?_⟩
   ·intro vs W lW hN
    obtain ⟨b9, aw⟩ : ∃ X, X = W := ⟨W, rfl⟩
    subst aw
    refine Tr.mono (T.lit0 (α := Head) 3 []) ?_
    rintro ax _ ⟨aa, rfl, ay, az⟩
    exact ⟨aa, rfl, ay, (show Ow aa 3 [] [ax] ([] : List Head) from az)⟩
   ·intro vs W lW hN
    obtain ⟨a0, a1⟩ : ∃ X, X = W := ⟨W, rfl⟩
    subst a1
    refine Tr.mono (Run.tr (R.mv (v := d) rfl)) ?_
    rintro _ _ ⟨hu, rfl⟩
    obtain rfl := hu.symm
    exact ⟨a0, rfl, Le.refl _ _, (show (d : Value) = d from rfl)⟩
   ·intro vs W lW hN
    obtain ⟨a3, a4⟩ : ∃ X, X = W := ⟨W, rfl⟩
    subst a4
    have a5 := Z.t lW rfl
    obtain ⟨a6, a7⟩ : ∃ v, vs 0 = v := ⟨_, rfl⟩
    obtain ⟨vs, rfl⟩ := up_eq a7
    have a9 : Ow a3 3 [] [a6] ([] : List Head) := (hN 0 (anyb rfl))
    have G : vs 1 = d := (hN 1 (anyb rfl))
    obtain ⟨vs, rfl⟩ := up_eq G
    refine Tr.mono (T.appP (α := Head) a9 (i.ul a5) rfl rfl au) ?_
    rintro ba _ ⟨ac, rfl, bb, bc⟩
    exact ⟨ac, rfl, bb, (show Ow ac 3 [] [ba] B from bc)⟩
   ·intro vs W lW hN
    obtain ⟨be, bg⟩ : ∃ X, X = W := ⟨W, rfl⟩
    subst bg
    refine Tr.mono (Run.tr (R.mv (v := vI b) rfl)) ?_
    rintro _ _ ⟨hu, rfl⟩
    obtain rfl := hu.symm
    exact ⟨be, rfl, Le.refl _ _, (show (vI b : Value) = vI b from rfl)⟩
   ·intro vs W lW hN
    obtain ⟨bh, bi⟩ : ∃ X, X = W := ⟨W, rfl⟩
    subst bi
    refine Tr.mono (Run.tr (R.lda (cs := [vS x1.Name, vI x1.At]) ((((S.up z).up F).up Y).up lW rfl).cells rfl rfl)) ?_
    rintro _ _ ⟨hu, rfl⟩
    obtain rfl := hu.symm
    exact ⟨bh, rfl, Le.refl _ _, (show (.agg [vS x1.Name, vI x1.At].toArray : Value) = .agg [vS x1.Name, vI x1.At].toArray from rfl)⟩
   ·intro vs W lW hN
    obtain ⟨cb, bj⟩ : ∃ X, X = W := ⟨W, rfl⟩
    subst bj
    have H : vs 4 = .agg [vS x1.Name, vI x1.At].toArray := (hN 4 (anyb rfl))
    obtain ⟨vs, rfl⟩ := up_eq H
    refine Tr.mono (T.bs 4 [.agg [vS x1.Name, vI x1.At].toArray] (cs := [vS x1.Name, vI x1.At]) rfl rfl (bsA rfl)) ?_
    rintro _ _ ⟨I, ae, rfl, rfl, bk, bl⟩
    exact ⟨ae, rfl, bk, (show (.slice (some (bx I)) 1 1 : Value) = .slice (some (bx I)) 1 1 ∧ Bx ae 4 I [vS x1.Name, vI x1.At] from ⟨rfl, bl⟩)⟩
   ·intro vs W lW hN
    obtain ⟨af, bm⟩ : ∃ X, X = W := ⟨W, rfl⟩
    subst bm
    obtain ⟨bn, bp⟩ : ∃ v, vs 2 = v := ⟨_, rfl⟩
    obtain ⟨vs, rfl⟩ := up_eq bp
    have bq : Ow af 3 [] [bn] B := (hN 2 (anyb rfl))
    have J : vs 3 = vI b := (hN 3 (anyb rfl))
    obtain ⟨vs, rfl⟩ := up_eq J
    obtain ⟨f, L⟩ : ∃ f, vs 5 = .slice (some (bx f)) 1 1 := ⟨_, ((hN 5 (anyb rfl))).1⟩
    obtain ⟨vs, rfl⟩ := up_eq L
    have br : Bx af 4 f [vS x1.Name, vI x1.At] := (hN 5 (anyb rfl)).2
    refine Tr.mono (T.call rfl (p106 (k0 := 5) (c0 := 3) bq br (Head.rd (K := [0]) x1.Name x1.At ) rfl rfl av)) ?_
    rintro bu _ ⟨ah, rfl, bv, ⟨_, rfl, bw⟩⟩
    exact ⟨ah, rfl, bv, (show Ow ah 5 [] [bu] k from bw)⟩
   ·intro vs W lW hN
    obtain ⟨ai, bz⟩ : ∃ X, X = W := ⟨W, rfl⟩
    subst bz
    obtain ⟨e, M⟩ : ∃ v, vs 6 = v := ⟨_, rfl⟩
    obtain ⟨vs, rfl⟩ := up_eq M
    have cc : Ow ai 5 [] [e] k := (hN 6 (anyb rfl))
    refine Tr.mono (Run.tr (R.as (v := e) rfl)) ?_
    rintro _ _ ⟨hu, rfl⟩
    obtain rfl := hu.symm
    exact ⟨ai, rfl, Le.refl _ _, (show (e : Value) = e from rfl)⟩
   ·intro vs W lW hN
    obtain ⟨aj, b0⟩ : ∃ X, X = W := ⟨W, rfl⟩
    subst b0
    have b2 := Z.t lW rfl
    obtain ⟨cd, hl83⟩ : ∃ x, x = lW := ⟨lW, rfl⟩
    have G : vs 1 = d := (hN 1 (anyb rfl))
    obtain ⟨vs, rfl⟩ := up_eq G
    have J : vs 3 = vI b := (hN 3 (anyb rfl))
    obtain ⟨vs, rfl⟩ := up_eq J
    have H : vs 4 = .agg [vS x1.Name, vI x1.At].toArray := (hN 4 (anyb rfl))
    obtain ⟨vs, rfl⟩ := up_eq H
    obtain ⟨f, L⟩ : ∃ f, vs 5 = .slice (some (bx f)) 1 1 := ⟨_, ((hN 5 (anyb rfl))).1⟩
    obtain ⟨vs, rfl⟩ := up_eq L
    have ce : Bx aj 4 f [vS x1.Name, vI x1.At] := (hN 5 (anyb rfl)).2
    obtain ⟨e, M⟩ : ∃ v, vs 6 = v := ⟨_, rfl⟩
    obtain ⟨vs, rfl⟩ := up_eq M
    have b3 : Ow aj 5 [] [e] k := (hN 6 (anyb rfl))
    have b4 : vs 7 = e := (hN 7 (anyb rfl))
    obtain ⟨vs, rfl⟩ := up_eq b4
    cases hm
    exact Cw.ret (ret1 rfl (Res.mk b2 ⟨e, rfl, b3.s.sub rfl rfl⟩))
 ·refine Cw.draw [] [(0, 0), (1, 0), (2, 0), (3, 0), (4, 0), (5, 0), (6, 0), (7, 0), (8, 1), (9, 0), (10, 1), (11, 0), (12, 0)] mixed (by kernel_rfl) fun ak C => ?_
  have N := V.n C
  refine Di rfl (Mw.p rfl rfl (fun _ => R.gt rfl rfl) (Db rfl (bs hm (fun a hm => ?_) fun a hm => ?_)))
  ·refine Wp a rfl (fun _ => R.mv (v := d) rfl) (Wp a rfl (fun _ => R.mv (v := vI b) rfl) (Wp a rfl (fun _ => R.sub rfl rfl) ?_))
   obtain ⟨D, O, hm⟩ := ob hm
   exact Wp a rfl (fun _ => R.ix (α := Head) (i.ul N) O rfl rfl rfl) (Wp a rfl (fun _ => R.fa rfl) (Wq a rfl (fun _ c => R.ld rfl rfl (cl_cell (Head.at0 ((i.ul N).at_ O)).1 rfl (Head.at0 ((i.ul N).at_ O)).str c)) (Wp a rfl (fun _ => R.fa rfl) (Wq a rfl (fun _ c => R.ld (v := vS x1.Name) rfl rfl (((S.up z).up C).clc rfl rfl c)) (Wp a rfl (fun _ => R.sgt rfl rfl) (Mw.p rfl rfl (fun _ => R.pk a rfl (v := vB (!(Op.bytesLess D.Name x1.Name || D.Name == x1.Name))) rfl) (Mw.nil ((ag) ⟨(!(Op.bytesLess D.Name x1.Name || D.Name == x1.Name)), ak, rfl, C, rfl, hm⟩))))))))
  ·exact dps 9 a rfl (Mw.p rfl rfl (fun _ => R.pk a rfl (v := vB false) rfl) (Mw.nil ((ag) ⟨false, ak, rfl, C, rfl, hm⟩)))
theorem p88 {x0 b x1 k0 r} (d : Rd W K [b] x0) (f : Rd W K [vS x1.Name, vI x1.At] x1) (hm : Vm.impl_insertHead x0 x1 = some r) : Q1 88 [b, .agg [vS x1.Name, vI x1.At].toArray] W [] fun W' v => ∃ a, v = a ∧ Ow W' k0 [] [a] r :=
 (c88 (d.view _) (f.view _) hm).ad (fk k0) fun _ _ ⟨a, e, h⟩ => ⟨a, e, h.back (fk_LL _)⟩
theorem c58 {x0 k x x1 x2 r} (aj : Ow W0 2 [] [k] x0.Commits) (ak : Ow W0 3 [] [x] x0.Heads) (hm : Vm.impl_Repo_point x0 x1 x2 = some r) : Q0 58 [.agg [k, x].toArray, vS x1, vI x2] W0 fun Wf v => ∃ U V, v = .agg [U, V].toArray ∧ OwS Wf [31] [] [U] r.Commits ∧ OwS Wf [32] [] [V] r.Heads := by
 unfold Vm.impl_Repo_point at hm
 refine CallR.of Tryz.func58 rfl rfl rfl rfl (sr (bo 4 rfl fun g1 W1 F W => ?_))
 have a2 := F.o
 refine al 5 [.slice none 0 0, .slice none 0 0] fun g5 X d b5 => ?_
 have a6 := a2.n d
 have Y := (ak.up F).up d
 refine nl (ssr (fl (W.up d) rfl (Lw.ln x0.Heads Y.rd rfl (mi rfl (nl (Cw.block ?_))))))
 obtain ⟨aq, ar, hm⟩ := jn_e hm
 refine Cw.loop 11 29 [7, 11] (fun m l w => ∃ e y z A Z B C a, CW.w a = w ∧ Le [] X a ∧ l = [Z, vI e] ∧ Ow a 6 [] [B] y ∧ Ow a 7 [] [C] z ∧ Bx a 5 g5 [B, C] ∧ Ow a 3 [] [x] A ∧ Vm.impl_Repo_point_l1 x0 x1 x2 aq m e y z A = some r) _ ⟨0, ([] : List Commit), ([] : List Head), x0.Heads, undef, .slice none 0 0, .slice none 0 0, X, rfl, Le.refl _ _, rfl, owN 6 [], owN 7 [], b5, Y, hm⟩ ?_
 rintro (_ | bn) _ _ σ ⟨e, y, z, A, Z, B, C, a, rfl, D, rfl, au, av, G, b, hm⟩
 ·cases hm
 unfold Vm.impl_Repo_point_l1 at hm
 have aa := a6.n D
 have H := ((aj.up F).up d).up D
 have f := (W.up d).up D
 refine sr (Lw.lt rfl (nl (Cw.seq (cn hm (fun hm => ?_) fun hm => ?_))))
 ·refine sk (Cw.seq (Cw.block (sr (mi rfl (Ni rfl (sr (fl f rfl (mi rfl ?_))))))))
  obtain ⟨bp, ac, hm⟩ := ob hm
  refine Lw.r rfl (R.ix (α := Head) b.rd ac rfl rfl rfl) (Lw.fa rfl (Lw.r rfl (R.ld rfl rfl (Head.at0 (b.rd.at_ ac)).str) (ms rfl (Lw.seq rfl (nl (cn hm (fun hm => ?_) fun hm => ?_))))))
  ·refine sr (fl f rfl (mi rfl (mi rfl ?_)))
   obtain ⟨bq, ae, hm⟩ := ob hm
   refine Lw.r rfl (R.ix (α := Head) b.rd ae rfl rfl rfl) (Lw.fa rfl ?_)
   obtain ⟨br, aw, hm⟩ := ob hm
   refine Lw.u (T.stH (α := Head) (β := Int) (J := []) (Ow.hole (α := Head) (β := Int) (jf := 1) b ae) (OwS.atm (K := []) (rdI _)) aw rfl rfl rfl rfl) ?_
   rintro _ _ ⟨bu, rfl, h, af⟩
   have ax := aa.t h
   refine nl (sr (la (f.up h) (sta (G.up h) (oc_cons (H.up h).oc (oc_cons af.oc oc_nil)) fun bv I ay => ?_)))
   have az := ax.t I
   refine nl ?_
   obtain ⟨bw, a0, L, a1⟩ := ((H.up h).up I).dyeO 31
   have a3 := az.t L
   obtain ⟨bz, a4, N, a5⟩ := ((af.up I).up L).dyeO 32
   have a7 := a3.t N
   cases hm
   rw [← a4.trans (a0)]
   exact Cw.ret (retA1 rfl ((ay.up L).up N) (Res.mk a7 ⟨k, x, rfl, (a1.up N).s, a5.s⟩))
  ·exact sk (rg (Lw.add rfl (mi rfl (nl ((agm) ⟨w64 (e + 1), y, z, A, vI e, B, C, a, rfl, D, rfl, au, av, G, b, hm⟩)))))
 ·refine Cw.exit ?_
  rw [ar] at hm
  refine sr (fl f rfl (ms rfl (mi rfl (Lw.r rfl (R.bd (zs := [vS ([] : Str), vI 0]) (cs := [vS x1, vI x2]) [(0, vS x1), (1, vI x2)] rfl rfl rfl (bp_cons rfl rfl (bp_cons rfl rfl bp_nil))) (cr hm (fun _ => p88 (K := [0, 3]) (k0 := 8) (x1 := (Vm.Head.mk x1 x2)) (b.rd.sub (M := [0, 3]) rfl) ((Head.rd (K := [0]) x1 x2 ).sub (M := [0, 3]) rfl)) ?_)))))
  rintro b0 ah b2 hm E ⟨_, rfl, O⟩
  have a8 := aa.n E
  refine Lw.fa rfl (Lw.u (T.st (j := 1) (v := ah) (f.up E) rfl rfl O.oc rfl rfl) ?_)
  rintro _ _ ⟨b3, rfl, i, a9⟩
  have ba := a8.t i
  have ai := (H.up E).up i
  refine nl (sr (la a9 (sta ((G.up E).up i) (oc_cons ai.oc (oc_cons (O.up i).oc oc_nil)) fun b4 P bb => ?_)))
  have bc := ba.t P
  refine nl ?_
  obtain ⟨b6, be, Q, bg⟩ := (ai.up P).dyeO 31
  have bh := bc.t Q
  obtain ⟨b7, bi, S, bj⟩ := (((O.up i).up P).up Q).dyeO 32
  have bk := bh.t S
  cases hm
  rw [← bi.trans (be)]
  exact Cw.ret (retA1 rfl ((bb.up Q).up S) (Res.mk bk ⟨k, ah, rfl, (bg.up S).s, bj.s⟩))
theorem p58 {x0 d f x1 x2 k0 k1 c0 c1 r} (h : Ow W c0 [] [d] x0.Commits) (i : Ow W c1 [] [f] x0.Heads) (hJ : okJ K [c0, c1] = true) (hm : Vm.impl_Repo_point x0 x1 x2 = some r) : Q1 58 [.agg [d, f].toArray, vS x1, vI x2] W [c0, c1] fun W' v => ∃ a b, v = .agg [a, b].toArray ∧ Ow W' k0 [] [a] r.Commits ∧ Ow W' k1 [] [b] r.Heads :=
 CallR.adJ (J := [c0, c1]) (fun c => bif Nat.beq c 0 then 0 else bif Nat.beq c 2 then c0 else bif Nat.beq c 3 then c1 else bif Nat.beq c 31 then k0 else bif Nat.beq c 32 then k1 else 0) (c58 (h.viewJ 0 hJ) (i.viewJ 1 hJ) hm) fun _ _ ⟨a, b, e, k, x⟩ => ⟨a, b, e, k.one1.backN rfl, x.one1.backN rfl⟩
theorem c63 {x0 D E x1 x2 x3 y x4 b r} (U : Ow W0 2 [] [D] x0.Commits) (V : Ow W0 3 [] [E] x0.Heads) (W : Rd W0 [0] [y] x3) (X : Ow W0 4 [] [b] x4) (hm : Vm.impl_Repo_commit x0 x1 x2 x3 x4 = some r) : Q0 63 [.agg [D, E].toArray, vS x1, vS x2, y, b] W0 fun Wf v => ∃ F G, v = .agg [F, G].toArray ∧ OwS Wf [31] [] [F] r.Commits ∧ OwS Wf [32] [] [G] r.Heads := by
 unfold Vm.impl_Repo_commit at hm
 refine CallR.of Tryz.func63 rfl rfl rfl rfl (sr (bo 5 rfl fun g1 W1 i Y => ?_))
 have Z := i.o
 refine al 6 [.slice none 0 0, .slice none 0 0] fun g6 W6 f b6 => ?_
 have a7 := Z.n f
 refine nl (Cw.seq (Cw.draw [] [(0, 0), (1, 1), (2, 0), (3, 0), (4, 0), (5, 2), (6, 0), (7, 2), (8, 3), (9, 0), (10, 3)] mixed (by kernel_rfl) fun a9 e => ?_))
 have H := a7.n e
 have I := (Y.up f).up e
 refine Dfl I rfl rfl rfl (Dv b rfl (Ds rfl (Dv y rfl ?_)))
 obtain ⟨ae, af, hm⟩ := ob hm
 refine Mw.t rfl rfl (T.call rfl (p87 (k0 := 7) (W.ul H) af)) ?_
 rintro k _ ⟨ba, rfl, d, ⟨_, rfl, L⟩⟩
 have ah := H.n d
 have M := (((X.up i).up f).up e).up d
 refine m0 d fun ai => Mw.p rfl rfl (fun _ => R.bd (zs := [.slice none 0 0, vS ([] : Str), .slice none 0 0]) (cs := [b, vS x2, k]) [(0, b), (1, vS x2), (2, k)] rfl rfl rfl (bp_cons M.oc rfl (bp_cons rfl rfl (bp_cons L.oc rfl bp_nil)))) (Mw.t rfl rfl (T.bs 8 [.agg [b, vS x2, k].toArray] (cs := [b, vS x2, k]) rfl rfl (bsA rfl)) ?_)
 rintro _ _ ⟨bb, bc, rfl, rfl, a, aj⟩
 have ak := ah.n a
 refine mc ai a fun be => ?_
 obtain ⟨N, am, hm⟩ := ob hm
 refine Mw.l rfl rfl (T.app1 (α := Commit) (J := [4, 7]) (K' := []) (((((U.up i).up f).up e).up d).up a) aj (Commit.own x4 x2 ae (M.up a).s (L.up a).s) rfl rfl am) ?_
 rintro an _ ⟨bg, rfl, x, z⟩
 have ao := ak.t x
 refine Df rfl (Mw.lu rfl (T.st (j := 0) (v := an) (((I.up d).up a).up x) rfl rfl z.oc rfl rfl) ?_)
 rintro _ _ ⟨bh, rfl, h, O⟩
 have ap := ao.t h
 refine Mw.nil (sr (la O (ms rfl (fl O rfl (Lw.ln N (z.up h).rd rfl (Lw.sub rfl (cr hm (fun _ => p58 (K := [0]) (k0 := 9) (k1 := 10) (c0 := 2) (c1 := 3) (x0 := (Vm.Repo.mk N x0.Heads)) (z.up h) (((((((V.up i).up f).up e).up d).up a).up x).up h) rfl) ?_)))))))
 rintro bi _ bj hm P ⟨aq, ar, rfl, Q, S⟩
 have au := ap.t P
 refine sta ((((((b6.up e).up d).up a).up x).up h).up P) (oc_cons Q.oc (oc_cons S.oc oc_nil)) fun bk A av => ?_
 have aw := au.t A
 refine nl ?_
 obtain ⟨bl, ax, B, ay⟩ := (Q.up A).dyeO 31
 have az := aw.t B
 obtain ⟨bm, a0, C, a1⟩ := ((S.up A).up B).dyeO 32
 have a3 := az.t C
 cases hm
 rw [← a0.trans (ax)]
 exact Cw.ret (retA1 rfl ((av.up B).up C) (Res.mk a3 ⟨aq, ar, rfl, (ay.up C).s, a1.s⟩))
theorem p63 {x0 d f x1 x2 x3 h x4 i k0 k1 c0 c1 c2 r} (k : Ow W c0 [] [d] x0.Commits) (x : Ow W c1 [] [f] x0.Heads) (y : Rd W K [h] x3) (z : Ow W c2 [] [i] x4) (hJ : okJ K [c0, c1, c2] = true) (hm : Vm.impl_Repo_commit x0 x1 x2 x3 x4 = some r) : Q1 63 [.agg [d, f].toArray, vS x1, vS x2, h, i] W [c0, c1, c2] fun W' v => ∃ a b, v = .agg [a, b].toArray ∧ Ow W' k0 [] [a] r.Commits ∧ Ow W' k1 [] [b] r.Heads :=
 CallR.adJ (J := [c0, c1, c2]) (fun c => bif Nat.beq c 0 then 0 else bif Nat.beq c 2 then c0 else bif Nat.beq c 3 then c1 else bif Nat.beq c 4 then c2 else bif Nat.beq c 31 then k0 else bif Nat.beq c 32 then k1 else 0) (c63 (k.viewJ 0 hJ) (x.viewJ 1 hJ) (y.view _) (z.viewJ 2 hJ) hm) fun _ _ ⟨a, b, e, A, B⟩ => ⟨a, b, e, A.one1.backN rfl, B.one1.backN rfl⟩
theorem c62 {x0 D E x1 e f r} (Q : Rd W0 [0] [D, E] x0) (S : Ow W0 2 [] [e] x1.Commits) (T : Ow W0 3 [] [f] x1.Heads) (U : Gl 0 W0 [0]) (hm : Vm.impl_Repo_tried x0 x1 = some r) : Q0 62 [.agg [D, E].toArray, .agg [e, f].toArray] W0 fun Wf v => ∃ F G, v = .tuple [.agg [F, G].toArray, vB r.2].toArray ∧ OwS Wf [31] [] [F] r.1.Commits ∧ OwS Wf [32] [] [G] r.1.Heads := by
 unfold Vm.impl_Repo_tried at hm
 obtain ⟨az, a0, H, V, W⟩ := Repo.split Q
 simp only [List.cons.injEq, and_true, true_and] at H
 obtain ⟨rfl, rfl⟩ := H
 refine CallR.of Tryz.func62 rfl rfl rfl rfl (sr (bo 4 rfl fun g1 W1 h X => ?_))
 have Y := h.o
 refine bo 5 rfl fun g5 W5 b I => ?_
 have Z := Y.n b
 refine al 6 [.slice none 0 0, .slice none 0 0] fun a7 a8 l10 J => ?_
 have L := Z.n l10
 have i := ((S.up h).up b).up l10
 have k := ((T.up h).up b).up l10
 refine Nb rfl (ssr (la (I.up l10) (ca hm (fun _ => p27 (K := [0, 2, 3]) (x0 := (Vm.Repo.mk x1.Commits x1.Heads)) ((Repo.rd (K := [2, 3]) x1.Commits x1.Heads (i.rd.sub (M := [2, 3]) rfl) (k.rd.sub (M := [2, 3]) rfl)).sub (M := [0, 2, 3]) rfl) ((U.ul L).sub (M := [0, 2, 3]) rfl)) fun a9 ba hm a => ?_)))
 have d := L.n a
 refine Lw.r rfl (R.not rfl) (nl (cn hm (fun hm => ?_) fun hm => ?_))
 ·refine sr (la (((X.up b).up l10).up a) (cr hm (fun _ => p56 (k0 := 7) (k1 := 8) (Repo.rd (K := [0]) x0.Commits x0.Heads (V.ul d) (W.ul d))) ?_))
  rintro bb _ bc hm N ⟨aa, ac, rfl, O, P⟩
  have ae := d.n N
  refine sta ((J.up a).up N) (oc_cons O.oc (oc_cons P.oc oc_nil)) fun be x af => ?_
  have ah := ae.t x
  refine Nb rfl ?_
  obtain ⟨bg, ai, y, aj⟩ := (O.up x).dyeO 31
  have ak := ah.t y
  obtain ⟨bh, am, z, an⟩ := ((P.up x).up y).dyeO 32
  have ao := ak.t z
  cases hm
  rw [← am.trans (ai)]
  exact Cw.ret (retA2 rfl ((af.up y).up z) rfl (Res.mk ao ⟨aa, ac, rfl, (aj.up z).s, an.s⟩))
 ·refine sk (sr (la ((I.up l10).up a) (sta (J.up a) (oc_cons (i.up a).oc (oc_cons (k.up a).oc oc_nil)) fun bi A ap => ?_)))
  have aq := d.t A
  refine Nb rfl ?_
  obtain ⟨bj, ar, B, au⟩ := ((i.up a).up A).dyeO 31
  have av := aq.t B
  obtain ⟨bk, aw, C, ax⟩ := (((k.up a).up A).up B).dyeO 32
  have ay := av.t C
  cases hm
  rw [← aw.trans (ar)]
  exact Cw.ret (retA2 rfl ((ap.up B).up C) rfl (Res.mk ay ⟨e, f, rfl, (au.up C).s, ax.s⟩))
theorem p62 {x0 d f x1 h i k0 k1 c0 c1 r} (k : Rd W K [d, f] x0) (x : Ow W c0 [] [h] x1.Commits) (y : Ow W c1 [] [i] x1.Heads) (z : Gl 0 W K) (hJ : okJ K [c0, c1] = true) (hm : Vm.impl_Repo_tried x0 x1 = some r) : Q1 62 [.agg [d, f].toArray, .agg [h, i].toArray] W [c0, c1] fun W' v => ∃ a b, v = .tuple [.agg [a, b].toArray, vB r.2].toArray ∧ Ow W' k0 [] [a] r.1.Commits ∧ Ow W' k1 [] [b] r.1.Heads :=
 CallR.adJ (J := [c0, c1]) (fun c => bif Nat.beq c 0 then 0 else bif Nat.beq c 2 then c0 else bif Nat.beq c 3 then c1 else bif Nat.beq c 31 then k0 else bif Nat.beq c 32 then k1 else 0) (c62 (k.view _) (x.viewJ 0 hJ) (y.viewJ 1 hJ) (z.view _) hm) fun _ _ ⟨a, b, e, A, B⟩ => ⟨a, b, e, A.one1.backN rfl, B.one1.backN rfl⟩
end Go.Sx
