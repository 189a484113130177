/- Walks: each function answers as its model, printed by a program of ours. Conditions: the arguments read as they are given. -/
import Derived.Test.YtokbhelngoeblaaGreatDoorCTs
import Derived.Test.YtokbhelngoeblaaGreatDoorCM4
import Derived.Test.YtokbhelngoeblaaGreatDoorCW1
import Derived.Test.YtokbhelngoeblaaGreatDoorCW11
import Derived.Test.YtokbhelngoeblaaGreatDoorCW3
import Derived.Test.YtokbhelngoeblaaGreatDoorCW4
namespace Go.Sx
open Go Go.Proofs Go.Vm Rp
set_option linter.unusedVariables false
set_option linter.unusedSimpArgs false
variable {W W0 : CW} {K : List Nat}
theorem c189 {x0 b x1 d x2 e r} (i : Rd W0 [0] [b] x0) (k : Rd W0 [0] [d] x1) (x : Rd W0 [0] [e] x2) (hm : Vm.zfZ x0 x1 x2 = some r) : Q0 189 [b, d, e] W0 fun Wf v => ∃ h, v = .tuple [h, vB r.2].toArray ∧ OwS Wf LL [] [h] r.1 := by
 unfold Vm.zfZ at hm
 refine zau.of Tryz.func189 rfl rfl rfl rfl (sr (Gv (.slice none 0 0) rfl (Nb rfl (sr (mv b rfl (mv d rfl (mv e rfl (cr hm (fun _ => p221_222 (k0 := 2) i k x) ?_))))))))
 rintro f _ B hm y ⟨a, rfl, z⟩
 have A := y.o
 refine Lw.r rfl (R.ext (vs := [a, vB f.2]) (v := a) rfl rfl) (Lw.r rfl (R.ext (vs := [a, vB f.2]) (v := vB f.2) rfl rfl) (Gv a rfl (Nb rfl ?_)))
 cases hm
 exact Cw.ret (zqd rfl rfl (Res.mk A ⟨a, rfl, z.s.sub rfl rfl⟩))
theorem p189 {x0 b x1 d x2 f k0 r} (h : Rd W K [b] x0) (i : Rd W K [d] x1) (k : Rd W K [f] x2) (hm : Vm.zfZ x0 x1 x2 = some r) : Q1 189 [b, d, f] W [] fun W' v => ∃ a, v = .tuple [a, vB r.2].toArray ∧ Ow W' k0 [] [a] r.1 :=
 (c189 (h.view _) (i.view _) (k.view _) hm).ad (fk k0) fun _ _ ⟨a, e, x⟩ => ⟨a, e, x.back (ziE _)⟩
theorem c162 {x0 h x1 I x2 J r} (h0 : Rd W0 [0] [h, vB x0.file] x0) (h1 : Rd W0 [0] [I, vB x1.file] x1) (h2 : Rd W0 [0] [J, vB x2.file] x2) (hm : Vm.zjq x0 x1 x2 = some r) : Q0 162 [.agg [h, vB x0.file].toArray, .agg [I, vB x1.file].toArray, .agg [J, vB x2.file].toArray] W0 fun Wf v => ∃ X, v = .tuple [.agg [X, vB r.1.file].toArray, vI r.2].toArray ∧ Rd Wf [0] [X] r.1.text := by
 unfold Vm.zjq at hm
 obtain ⟨b7, Y, b⟩ := has.split h0
 simp only [List.cons.injEq, and_true, true_and] at Y
 obtain rfl := Y
 obtain ⟨b8, Z, i⟩ := has.split h1
 simp only [List.cons.injEq, and_true, true_and] at Z
 obtain rfl := Z
 obtain ⟨b9, aa, k⟩ := has.split h2
 simp only [List.cons.injEq, and_true, true_and] at aa
 obtain rfl := aa
 refine zau.of Tryz.func162 rfl rfl rfl rfl (sr (bo 2 rfl fun g1 W1 l1 b1 => ?_))
 have a2 := l1.o
 refine bo 3 rfl fun g3 W3 l3 b3 => ?_
 have a4 := a2.n l3
 refine bo 4 rfl fun g6 W6 L b6 => ?_
 have a7 := a4.n L
 refine al 5 [.slice none 0 0, vB false] fun ch a6 l10 af => ?_
 have D := a7.n l10
 have N := ((b1.up l3).up L).up l10
 have O := (b3.up L).up l10
 refine Ni rfl (Cw.seq (Cw.block ?_))
 obtain ⟨a8, a9, hm⟩ := zbk hm
 refine Cw.join 10 18 [10] (fun l w => ∃ P Q, CW.w Q = w ∧ Le [] a6 Q ∧ l = [vB P] ∧ a8 P = some r) ?_ ?_
 ·rintro _ _ σ ⟨P, Q, rfl, d, rfl, hm⟩
  rw [a9] at hm
  have E := D.n d
  have F := (b6.up l10).up d
  refine cn hm (fun hm => ?_) fun hm => ?_
  ·refine sr (la F (sta (af.up d) (zaa k.oc (zaa rfl zaF)) fun ci ba bb => ?_))
   have ah := E.t ba
   refine Ni rfl ?_
   cases hm
   exact Cw.ret (zfa rfl bb rfl (Res.mk ah ⟨J, rfl, (k.ul ah)⟩))
  ·refine sr (la F (la (N.up d) (ca hm (fun _ => p188 (has.rd (K := [0]) x2.text x2.file (k.ul E)) (has.rd (K := [0]) x0.text x0.file (b.ul E))) fun cj S hm e => ?_)))
   have ai := E.n e
   have T := (O.up d).up e
   have aj := (af.up d).up e
   refine Nb rfl (cn hm (fun hm => ?_) fun hm => ?_)
   ·refine sr (la T (sta aj (zaa i.oc (zaa rfl zaF)) fun ck bc be => ?_))
    have ak := ai.t bc
    refine Ni rfl ?_
    cases hm
    exact Cw.ret (zfa rfl be rfl (Res.mk ak ⟨I, rfl, (i.ul ak)⟩))
   ·obtain ⟨bg, bh, hm⟩ := zbk hm
    refine Cw.join 25 33 [25] (fun l w => ∃ U V, CW.w V = w ∧ Le [] S V ∧ l = [vB U] ∧ bg U = some r) ?_ ?_
    ·rintro _ _ σ ⟨U, V, rfl, x, rfl, hm⟩
     rw [bh] at hm
     have f := ai.n x
     have y := ((N.up d).up e).up x
     have G := aj.up x
     refine cn hm (fun hm => ?_) fun hm => ?_
     ·refine sr (la y (sta G (zaa b.oc (zaa rfl zaF)) fun cl bi bj => ?_))
      have am := f.t bi
      refine Ni rfl ?_
      cases hm
      exact Cw.ret (zfa rfl bj rfl (Res.mk am ⟨h, rfl, (b.ul am)⟩))
     ·refine sr (fl y rfl (Lw.r rfl (R.not rfl) (Nb rfl (cn hm (fun hm => ?_) fun hm => ?_))))
      ·refine sr (la y (sta G (zaa b.oc (zaa rfl zaF)) fun cm bk bl => ?_))
       have an := f.t bk
       refine Ni rfl ?_
       cases hm
       exact Cw.ret (zfa rfl bl rfl (Res.mk an ⟨h, rfl, (b.ul an)⟩))
      ·refine sk (sr (fl y rfl (fl (T.up x) rfl (fl ((F.up e).up x) rfl (cr hm (fun _ => p189 (k0 := 6) (b.ul f) (i.ul f) (k.ul f)) ?_)))))
       rintro z _ co hm H ⟨a, rfl, W⟩
       have ao := f.n H
       refine mv (.tuple [a, vB z.2].toArray) rfl (Lw.r rfl (R.ext (vs := [a, vB z.2]) (v := a) rfl rfl) (Lw.r rfl (R.ext (vs := [a, vB z.2]) (v := vB z.2) rfl rfl) (Gv a rfl (Nb rfl (ssr (mb rfl (Lw.r rfl (R.not rfl) (nl (cn hm (fun hm => ?_) fun hm => ?_)))))))))
       ·refine sr (la (y.up H) (sta (G.up H) (zaa b.oc (zaa rfl zaF)) fun cp bm bn => ?_))
        have ap := ao.t bm
        refine Ni rfl ?_
        cases hm
        exact Cw.ret (zfa rfl bn rfl (Res.mk ap ⟨h, rfl, (b.ul ap)⟩))
       ·refine sk (sr (mv a rfl (Lw.r rfl (R.bd (zs := [.slice none 0 0, vB false]) (cs := [a, vB true]) [(0, a), (1, vB true)] rfl rfl rfl (zaK W.oc rfl (zaK rfl rfl zdL))) (sta (G.up H) (zaa W.oc (zaa rfl zaF)) fun cq aq bp => ?_))))
        have bq := ao.t aq
        refine Ni rfl ?_
        obtain ⟨br, bu, ar, bv⟩ := zl7 _ 6
        have bw : Rd (α := List Str) br [0] [a] z.1 := by rw [bv]; exact ((W.up aq).rd.dye 6).sub (M := [0]) rfl
        have bz := bq.t ar
        cases hm
        rw [← bu]
        exact Cw.ret (zfa rfl (bp.up ar) rfl (Res.mk bz ⟨a, rfl, bw⟩))
    ·refine rg (fl T rfl (Lw.r rfl (R.not rfl) (mb rfl (bs hm (fun A hm => ?_) fun A hm => ?_))))
     ·exact psk 3 A rfl (Pb A rfl (Nb rfl ((ag) ⟨true, S, rfl, Le.refl _ _, rfl, hm⟩)))
     ·exact wak 3 A (fl (F.up e) rfl (Lw.r rfl (R.not rfl) (Pb A rfl (Nb rfl ((ag) ⟨(!x2.file), S, rfl, Le.refl _ _, rfl, hm⟩)))))
 ·refine rg (la O (la N (ca hm (fun _ => p188 (has.rd (K := [0]) x1.text x1.file (i.ul D)) (has.rd (K := [0]) x0.text x0.file (b.ul D))) fun ct b0 hm B => ?_)))
  have au := D.n B
  refine mb rfl (bs hm (fun C hm => ?_) fun C hm => ?_)
  ·exact psk 3 C rfl (Pb C rfl (Nb rfl ((ag) ⟨true, b0, rfl, B, rfl, hm⟩)))
  ·exact wak 3 C (la (O.up B) (la ((b6.up l10).up B) (ca hm (fun _ => p188 (has.rd (K := [0]) x1.text x1.file (i.ul au)) (has.rd (K := [0]) x2.text x2.file (k.ul au))) fun b2 b4 hm b5 => Pb C rfl (Nb rfl ((ag) ⟨b2, b4, rfl, (B.j b5).w, rfl, hm⟩)))))
theorem p162 {x0 b x1 d x2 f r} (h : Rd W K [b, vB x0.file] x0) (i : Rd W K [d, vB x1.file] x1) (k : Rd W K [f, vB x2.file] x2) (hm : Vm.zjq x0 x1 x2 = some r) : Q1 162 [.agg [b, vB x0.file].toArray, .agg [d, vB x1.file].toArray, .agg [f, vB x2.file].toArray] W [] fun W' v => ∃ a, v = .tuple [.agg [a, vB r.1.file].toArray, vI r.2].toArray ∧ Rd W' (0 :: K) [a] r.1.text :=
 (c162 (h.view _) (i.view _) (k.view _) hm).ad (fk 0) fun _ _ ⟨a, e, x⟩ => ⟨a, e, x.back rfl⟩
theorem c116 {x0 z x1 B x2 C r} (L : Rd W0 [0] [z] x0) (h1 : Rd W0 [0] [B] x1) (h2 : Rd W0 [0] [C] x2) (bb : Gl 0 W0 [0]) (hm : Vm.zjr x0 x1 x2 = some r) : Q0 116 [z, B, C] W0 fun Wf v => ∃ u0 u1, v = .tuple [u0, u1].toArray ∧ OwS (α := List (Sh Vm.File)) Wf [31] [0] [u0] r.1 ∧ OwS Wf [32] [] [u1] r.2 := by
 unfold Vm.zjr at hm
 refine zau.of Tryz.func116 rfl rfl rfl rfl (sr (Gv (.slice none 0 0) rfl (Nv (.slice none 0 0) rfl (ssr (mv z rfl (mv B rfl (mv C rfl (ca hm (fun _ => p115 L h1 h2 bb) fun z1 W3 hm l3 => ?_))))))))
 have N := l3.o
 refine Lw.r rfl (R.not rfl) (nl (cn hm (fun hm => ?_) fun hm => ?_))
 ·refine sr (Gv (.slice none 0 0) rfl (Nv (.slice none 0 0) rfl ?_))
  cases hm
  exact Cw.ret (zqd rfl rfl (Res.mk N ⟨.slice none 0 0, .slice none 0 0, rfl, (zsY [0]).sub rfl rfl, (zqe []).sub rfl rfl⟩))
 ·refine sk (sr (Nv (.slice none 0 0) rfl (sr (Nv (.slice none 0 0) rfl (ssr (mv z rfl (mv B rfl (mv C rfl (Lw.t rfl (T.bsS (α := Sh (List File)) (xs := [x0, x1, x2]) 2 [0] (W := W3) [z, B, C] (bsE [[z], [B], [C]] (zBO L.oc (zBO h1.oc (zBO h2.oc zBN))) (Each.cons ((L.ul N).sh1) (Each.cons ((h1.ul N).sh1) (Each.cons ((h2.ul N).sh1) Each.nil)))) rfl) ?_)))))))))
  rintro v9 _ ⟨W9, rfl, l9, o9⟩
  have cj := N.n l9
  have ck : Rd (α := List (List Vm.File)) W9 [2, 0] [v9] ([x0, x1, x2] : List (List File)) := Ow.rdSh o9
  refine cr hm (fun _ => p161 (K := [0, 2]) (k0 := 3) (ck.sub (M := [0, 2]) rfl)) ?_
  rintro bg ej bh hm cl ⟨_, rfl, au⟩
  have cm := cj.n cl
  refine Lw.ln bg au.rd rfl (mi rfl (nl (Cw.block ?_)))
  obtain ⟨co, cp, hm⟩ := zbk hm
  refine Cw.loop 25 59 [8, 9, 11, 12, 13, 25] (fun m l w => ∃ (F : List Vm.File) (O : List Vm.Clash) (af : Int) (d h bi bj bk : Value) (i : CW), i.w = w ∧ Le [4, 5, 6, 7, 8, 9] bh i ∧ l = [d, h, bi, bj, bk, vI af] ∧ Ow (α := List (Sh Vm.File)) i 4 [0] [d] F ∧ Ow i 5 [] [h] O ∧ Vm.zej x0 x1 x2 bg co m F O af = some r) _ ⟨([] : List File), ([] : List Clash), 0, .slice none 0 0, .slice none 0 0, undef, undef, undef, bh, rfl, Le.refl _ _, rfl, zBR 4 [0], owN 5 [], hm⟩ ?_
  rintro (_ | ek) _ _ σ ⟨F, O, af, d, h, bi, bj, bk, i, rfl, ah, rfl, av, aw, hm⟩
  ·cases hm
  unfold Vm.zej at hm
  have ai := cm.t ah
  refine sr (Lw.lt rfl (nl (Cw.seq (cn hm (fun hm => ?_) fun hm => ?_))))
  ·refine sk ?_
   obtain ⟨cq, ct, hm⟩ := zbk hm
   refine Cw.join 27 58 [8, 9, 11, 12, 13] (fun l w => ∃ (aj : List Vm.File) (ak : List Vm.Clash) (am an ax ay az : Value) (G : CW), G.w = w ∧ Le [4, 5, 6, 7, 8, 9] i G ∧ l = [am, an, ax, ay, az] ∧ Ow (α := List (Sh Vm.File)) G 4 [0] [am] aj ∧ Ow G 5 [] [an] ak ∧ cq aj ak = some r) ?_ ?_
   ·rintro _ _ σ ⟨aj, ak, am, an, ax, ay, az, G, rfl, cu, rfl, cv, cw, hm⟩
    rw [ct] at hm
    exact rg (Lw.add rfl (mi rfl (nl ((agm) ⟨aj, ak, w64 (af + 1), am, an, ax, ay, az, G, rfl, (ah.j cu).w, rfl, cv, cw, hm⟩))))
   ·refine Cw.block (sr ?_)
    obtain ⟨b, bl, hm⟩ := ob hm
    refine Lw.r rfl (R.ix (α := Str) (au.up ah).rd bl rfl rfl rfl) (Lw.r rfl (R.ld rfl rfl ((au.up ah).rd.at_ bl).str) (Ns rfl (sr (mv z rfl (ms rfl (cr hm (fun _ => p163 (k0 := 6) (L.ul ai)) ?_))))))
    rintro P _ el hm Q ⟨cx, rfl, cy⟩
    have bm := ai.n Q
    refine mv B rfl (ms rfl (cr hm (fun _ => p163 (k0 := 7) (h1.ul bm)) ?_))
    rintro S _ em hm H ⟨cz, rfl, bn⟩
    have c0 := bm.n H
    refine mv C rfl (ms rfl (cr hm (fun _ => p163 (k0 := 8) (h2.ul c0)) ?_))
    rintro U _ en hm D ⟨c1, rfl, bp⟩
    have bq := (cy.up H).up D
    refine cr hm (fun _ => p162 (K := [6, 7, 8]) (x0 := (Vm.has.mk P.text P.file)) (x1 := (Vm.has.mk S.text S.file)) (x2 := (Vm.has.mk U.text U.file)) ((has.rd (K := [6]) P.text P.file bq.rd).sub (M := [6, 7, 8]) rfl) ((has.rd (K := [7]) S.text S.file (bn.up D).rd).sub (M := [6, 7, 8]) rfl) ((has.rd (K := [8]) U.text U.file bp.rd).sub (M := [6, 7, 8]) rfl)) ?_
    rintro a _ eo hm E ⟨e, rfl, c2⟩
    have ao := c2.sub (M := [0, 6, 7, 8]) rfl
    refine mv (.tuple [.agg [e, vB a.1.file].toArray, vI a.2].toArray) rfl (Lw.r rfl (R.ext (vs := [.agg [e, vB a.1.file].toArray, vI a.2]) (v := .agg [e, vB a.1.file].toArray) rfl rfl) (Lw.r rfl (R.ext (vs := [.agg [e, vB a.1.file].toArray, vI a.2]) (v := vI a.2) rfl rfl) (al 9 [.slice none 0 0, vB false] fun br ep k c3 => sta c3 (zaa ao.oc (zaa rfl zaF)) fun bu y bv => ?_)))
    have bw := (((((aw.up Q).up H).up D).up E).up k).up y
    refine Ni rfl ?_
    obtain ⟨c4, c5, hm⟩ := zbk hm
    refine Cw.join 42 49 [9] (fun l w => ∃ V X Y, CW.w Y = w ∧ Le [5] bu Y ∧ l = [X] ∧ Ow Y 5 [] [X] V ∧ c4 V = some r) ?_ ?_
    ·rintro _ _ σ ⟨V, X, Y, rfl, f, rfl, bz, hm⟩
     rw [c5] at hm
     have b0 := ((((((av.up Q).up H).up D).up E).up k).up y).up f
     refine sr (fl (bv.up f) rfl (nl (cn hm (fun hm => ?_) fun hm => ?_)))
     ·refine rg (mv d rfl (ms rfl (fl (bv.up f) rfl (Lw.r rfl (R.bd (zs := [vS ([] : Str), .slice none 0 0]) (cs := [vS b, e]) [(0, vS b), (1, e)] rfl rfl rfl (zaK rfl rfl (zaK ao.oc rfl zdL))) (Lw.t rfl (T.bs 10 [.agg [vS b, e].toArray] (cs := [vS b, e]) rfl rfl (bsA rfl)) ?_)))))
      rintro _ _ ⟨er, c6, rfl, rfl, A, c7⟩
      have c8 := ao.up ((k.sub (M := [5, 9]) rfl).trans ((y.sub (M := [5, 9]) rfl).trans ((f.sub (M := [5, 9]) rfl).trans (A.sub (M := [5, 9]) rfl)))) rfl
      have c9 : Ow (α := List (Sh Vm.File)) c6 4 [0, 6, 7, 8] [d] F := (b0.up A).sub rfl
      obtain ⟨ap, da, hm⟩ := ob hm
      refine Lw.t rfl (T.app1S (α := Sh Vm.File) (K' := [0, 6, 7, 8]) c9 c7 (File.rd (K := [0, 6, 7, 8]) b a.1.text c8).sh1 rfl rfl da) ?_
      rintro Z _ ⟨es, rfl, I, db⟩
      refine Nv Z rfl ?_
      have dc := ao.up ((k.sub (M := [4, 5, 9]) rfl).trans ((y.sub (M := [4, 5, 9]) rfl).trans ((f.sub (M := [4, 5, 9]) rfl).trans ((A.sub (M := [4, 5, 9]) rfl).trans (I.sub (M := [4, 5, 9]) rfl))))) rfl
      obtain ⟨a0, dd, aq, a1⟩ := zl7 _ 6
      have de : Rd a0 [0, 7, 8] [e] a.1.text := by rw [a1]; exact (dc.dye 6).sub (M := [0, 7, 8]) rfl
      have df : Ow (α := List (Sh Vm.File)) a0 4 [0, 7, 8] [Z] ap := by rw [a1]; exact (db.dyeA 6 rfl).sub rfl
      have et : Rd (α := List Str) a0 [0] [cx] P.text := by rw [a1]; exact (((((((bq.up E).up k).up y).up f).up A).up I).rd.dye 6).sub (M := [0]) rfl
      obtain ⟨a2, dg, a3, a5⟩ := zl7 _ 7
      have dh : Rd a2 [0, 8] [e] a.1.text := by rw [a5]; exact (de.dye 7).sub (M := [0, 8]) rfl
      have di : Ow (α := List (Sh Vm.File)) a2 4 [0, 8] [Z] ap := by rw [a5]; exact (df.dyeA 7 rfl).sub rfl
      have eu : Rd (α := List Str) a2 [0] [cz] S.text := by rw [a5]; exact (((((((((bn.up D).up E).up k).up y).up f).up A).up I).up aq).rd.dye 7).sub (M := [0]) rfl
      obtain ⟨ar, dj, b1, a6⟩ := zl7 _ 8
      have ew : Rd ar [0] [e] a.1.text := by rw [a6]; exact (dh.dye 8).sub (M := [0]) rfl
      have dk : Ow (α := List (Sh Vm.File)) ar 4 [0] [Z] ap := by rw [a6]; exact (di.dyeA 8 rfl).sub rfl
      have ex : Rd (α := List Str) ar [0] [c1] U.text := by rw [a6]; exact (((((((((bp.up E).up k).up y).up f).up A).up I).up aq).up a3).rd.dye 8).sub (M := [0]) rfl
      exact (ag) ⟨ap, V, Z, X, vS b, ptr (bx br), vI a.2, ar, dj.trans (dg.trans (dd)), (((((((((((Q.j H).j D).j E).j k).j y).j f).j A).j I).j aq).j a3).j b1).w, rfl, dk, (((((bz.up A).up I).up aq).up a3).up b1), hm⟩
     ·exact sk ((ag) ⟨F, V, d, X, vS b, ptr (bx br), vI a.2, Y, rfl, ((((((Q.j H).j D).j E).j k).j y).j f).w, rfl, b0, bz, hm⟩)
    ·refine sr (mi rfl (Lw.ne rfl (nl (cn hm (fun hm => ?_) fun hm => ?_))))
     ·refine rg (mv h rfl (ms rfl (mi rfl (Lw.r rfl (R.bd (zs := [vS ([] : Str), vI 0]) (cs := [vS b, vI a.2]) [(0, vS b), (1, vI a.2)] rfl rfl rfl (zaK rfl rfl (zaK rfl rfl zdL))) (Lw.t rfl (T.bs 11 [.agg [vS b, vI a.2].toArray] (cs := [vS b, vI a.2]) rfl rfl (bsA rfl)) ?_)))))
      rintro _ _ ⟨ey, ez, rfl, rfl, b2, dl⟩
      obtain ⟨dm, dn, hm⟩ := ob hm
      refine Lw.t rfl (T.app1S (α := Clash) (K' := []) (bw.up b2) dl (Clash.rd (K := []) b a.2) rfl rfl dn) ?_
      rintro b3 _ ⟨dp, rfl, dq, dr⟩
      exact Nv b3 rfl ((ag) ⟨dm, b3, dp, rfl, (b2.j dq).w, rfl, dr, hm⟩)
     ·exact sk ((ag) ⟨O, h, bu, rfl, Le.refl _ _, rfl, bw, hm⟩)
  ·refine Cw.exit ?_
   rw [cp] at hm
   refine Cw.seq ?_
   obtain ⟨ds, dt, hm⟩ := zbk hm
   refine Cw.join 60 67 [67] (fun l w => ∃ a7 a8, CW.w a8 = w ∧ Le [] i a8 ∧ l = [vB a7] ∧ ds a7 = some r) ?_ ?_
   ·rintro _ _ σ ⟨a7, a8, rfl, a9, rfl, hm⟩
    rw [dt] at hm
    have ba := ai.n a9
    refine cn hm (fun hm => ?_) fun hm => ?_
    ·refine sr (mv z rfl (cr hm (fun _ => p88 (k0 := 12) (L.ul ba)) ?_))
     rintro e0 b4 e1 hm du ⟨_, rfl, dv⟩
     have dw := ba.n du
     refine Lw.r rfl (R.bd (zs := [vS ([] : Str), vI 0]) (cs := [vS ([] : Str), vI 4]) [(1, vI 4)] rfl rfl rfl (zaK rfl rfl zdL)) (Lw.t rfl (T.bsO (α := Clash) (J := []) (xs := [Vm.Clash.mk ([] : Str) 4]) 13 [.agg [vS ([] : Str), vI 4].toArray] (bsL [[vS ([] : Str), vI 4]] (zCx rfl zBN) (OwL.cons (x := (Vm.Clash.mk ([] : Str) 4)) (OwS.atm (K := []) (Clash.rd (K := []) ([] : Str) 4)) OwL.nil)) rfl) ?_)
     rintro b5 _ ⟨e2, rfl, b6, dx⟩
     have dy := dw.n b6
     refine Gv b4 rfl (Nv b5 rfl ?_)
     obtain ⟨e3, dz, b7, d0⟩ := (dv.up b6).toSh
     have d1 := dy.t b7
     obtain ⟨e4, d2, b8, d3⟩ := d0.dyeO 31
     have d4 := d1.t b8
     obtain ⟨e5, d5, b9, d6⟩ := ((dx.up b7).up b8).dyeO 32
     have d7 := d4.t b9
     cases hm
     rw [← d5.trans (d2.trans (dz))]
     exact Cw.ret (zqd rfl rfl (Res.mk d7 ⟨b4, b5, rfl, (d3.up b9).s, d6.s⟩))
    ·refine sk (sr (mv d rfl (mv h rfl (Gv d rfl (Nv h rfl ?_)))))
     obtain ⟨e6, d8, cb, d9⟩ := (av.up a9).dyeO 31
     have ea := ba.t cb
     obtain ⟨e7, eb, cc, ec⟩ := ((aw.up a9).up cb).dyeO 32
     have ed := ea.t cc
     cases hm
     rw [← eb.trans (d8)]
     exact Cw.ret (zqd rfl rfl (Res.mk ed ⟨d, h, rfl, (d9.up cc).s, ec.s⟩))
   ·refine rg (mv h rfl (Lw.ln O aw.rd rfl (Lw.eq rfl (mb rfl (bs hm (fun aa hm => ?_) fun aa hm => ?_)))))
    ·refine wak 3 aa (mv d rfl ?_)
     have ee : Rd (α := List Vm.File) i [4, 0] [d] F := Ow.rdSh av
     exact ca hm (fun _ => p85 (K := [0, 4]) (ee.sub (M := [0, 4]) rfl) ((bb.ul ai).sub (M := [0, 4]) rfl)) fun ef eg hm eh => Lw.r rfl (R.not rfl) (Pb aa rfl (nl ((ag) ⟨(!ef), eg, rfl, eh, rfl, hm⟩)))
    ·exact psk 3 aa rfl (Pb aa rfl (nl ((ag) ⟨false, i, rfl, Le.refl _ _, rfl, hm⟩)))
theorem p116 {x0 d x1 f x2 h k0 k1 r} (i : Rd W K [d] x0) (k : Rd W K [f] x1) (x : Rd W K [h] x2) (y : Gl 0 W K) (hm : Vm.zjr x0 x1 x2 = some r) : Q1 116 [d, f, h] W [] fun W' v => ∃ a b, v = .tuple [a, b].toArray ∧ Ow (α := List (Sh Vm.File)) W' k0 (0 :: K) [a] r.1 ∧ Ow W' k1 [] [b] r.2 :=
 zau.adJ (J := []) (fun c => bif Nat.beq c 0 then 0 else bif Nat.beq c 31 then k0 else bif Nat.beq c 32 then k1 else 0) (c116 (i.view _) (k.view _) (x.view _) (y.view _) hm) fun _ _ ⟨a, b, e, z, A⟩ => ⟨a, b, e, z.one1.backNS rfl rfl, A.one1.backN rfl⟩
theorem c47 {x0 e x1 f x2 h r} (i : Rd W0 [0] [e] x0) (k : Rd W0 [0] [f] x1) (x : Rd W0 [0] [h] x2) (y : Gl 0 W0 [0]) (hm : Vm.zdU x0 x1 x2 = some r) : Q0 47 [e, f, h] W0 fun Wf v => ∃ z, v = .tuple [z, vB r.2].toArray ∧ OwS (α := List (Sh Vm.File)) Wf LL [0] [z] r.1 := by
 unfold Vm.zdU at hm
 refine zau.of Tryz.func47 rfl rfl rfl rfl (sr (Gv (.slice none 0 0) rfl (Nb rfl (ssr (mv e rfl (mv f rfl (mv h rfl (ca hm (fun _ => p115 i k x y) fun I J hm C => ?_))))))))
 have b := C.o
 refine Lw.r rfl (R.not rfl) (nl (cn hm (fun hm => ?_) fun hm => ?_))
 ·refine sr (Gv (.slice none 0 0) rfl (Nb rfl ?_))
  cases hm
  exact Cw.ret (zqd rfl rfl (Res.mk b ⟨.slice none 0 0, rfl, (zsY [0]).sub rfl rfl⟩))
 ·refine sk (sr (mv e rfl (mv f rfl (mv h rfl (cr hm (fun _ => p116 (k0 := 2) (k1 := 3) (i.ul b) (k.ul b) (x.ul b) (y.ul b)) ?_)))))
  rintro A _ D hm E ⟨a, d, rfl, F, G⟩
  have H : Ow (α := List (Sh Vm.File)) D 2 [0] [a] A.1 := F.sub rfl
  have B := b.n E
  refine mv (.tuple [a, d].toArray) rfl (Lw.r rfl (R.ext (vs := [a, d]) (v := a) rfl rfl) (Lw.r rfl (R.ext (vs := [a, d]) (v := d) rfl rfl) (Gv a rfl (Nv d rfl (ssr (mv d rfl (Lw.ln A.2 G.rd rfl (Lw.gt rfl (nl (cn hm (fun hm => ?_) fun hm => ?_))))))))))
  ·refine sr (Gv (.slice none 0 0) rfl (Nb rfl ?_))
   cases hm
   exact Cw.ret (zqd rfl rfl (Res.mk B ⟨.slice none 0 0, rfl, (zsY [0]).sub rfl rfl⟩))
  ·refine sk (sr (mv a rfl (Gv a rfl (Nb rfl ?_))))
   cases hm
   exact Cw.ret (zqd rfl rfl (Res.mk B ⟨a, rfl, H.s.sub rfl rfl⟩))
theorem p47 {x0 b x1 d x2 f k0 r} (h : Rd W K [b] x0) (i : Rd W K [d] x1) (k : Rd W K [f] x2) (x : Gl 0 W K) (hm : Vm.zdU x0 x1 x2 = some r) : Q1 47 [b, d, f] W [] fun W' v => ∃ a, v = .tuple [a, vB r.2].toArray ∧ Ow (α := List (Sh Vm.File)) W' k0 (0 :: K) [a] r.1 :=
 (c47 (h.view _) (i.view _) (k.view _) (x.view _) hm).ad (fk k0) fun _ _ ⟨a, e, y⟩ => ⟨a, e, y.backS (ziE _) rfl⟩
theorem c157 {x0 D E x1 x2 x3 y x4 b r} (U : Ow W0 2 [] [D] x0.Commits) (V : Ow W0 3 [] [E] x0.Heads) (W : Rd W0 [0] [y] x3) (X : Ow W0 4 [] [b] x4) (hm : Vm.zbO x0 x1 x2 x3 x4 = some r) : Q0 157 [.agg [D, E].toArray, vS x1, vS x2, y, b] W0 fun Wf v => ∃ F G, v = .agg [F, G].toArray ∧ OwS Wf [31] [] [F] r.Commits ∧ OwS Wf [32] [] [G] r.Heads := by
 unfold Vm.zbO at hm
 refine zau.of Tryz.func157 rfl rfl rfl rfl (sr (bo 5 rfl fun g1 W1 i Y => ?_))
 have Z := i.o
 refine al 6 [.slice none 0 0, .slice none 0 0] fun g6 W6 f b6 => ?_
 have a7 := Z.n f
 refine nl (Cw.seq (Cw.draw [] [(0, 0), (1, 1), (2, 0), (3, 0), (4, 0), (5, 2), (6, 0), (7, 2), (8, 3), (9, 0), (10, 3)] mixed (by kernel_rfl) fun a9 e => ?_))
 have H := a7.n e
 have I := (Y.up f).up e
 refine Dfl I rfl rfl rfl (Dv b rfl (Ds rfl (Dv y rfl ?_)))
 obtain ⟨ae, af, hm⟩ := ob hm
 refine Mw.t rfl rfl (T.call rfl (p88 (k0 := 7) (W.ul H) af)) ?_
 rintro k _ ⟨ba, rfl, d, ⟨_, rfl, L⟩⟩
 have ah := H.n d
 have M := (((X.up i).up f).up e).up d
 refine m0 d fun ai => Mw.p rfl rfl (fun _ => R.bd (zs := [.slice none 0 0, vS ([] : Str), .slice none 0 0]) (cs := [b, vS x2, k]) [(0, b), (1, vS x2), (2, k)] rfl rfl rfl (zaK M.oc rfl (zaK rfl rfl (zaK L.oc rfl zdL)))) (Mw.t rfl rfl (T.bs 8 [.agg [b, vS x2, k].toArray] (cs := [b, vS x2, k]) rfl rfl (bsA rfl)) ?_)
 rintro _ _ ⟨bb, bc, rfl, rfl, a, aj⟩
 have ak := ah.n a
 refine mc ai a fun be => ?_
 obtain ⟨N, am, hm⟩ := ob hm
 refine Mw.l rfl rfl (T.app1 (α := Commit) (J := [4, 7]) (K' := []) (((((U.up i).up f).up e).up d).up a) aj (Commit.own x4 x2 ae (M.up a).s (L.up a).s) rfl rfl am) ?_
 rintro an _ ⟨bg, rfl, x, z⟩
 have ao := ak.t x
 refine Df rfl (Mw.lu rfl (T.st (j := 0) (v := an) (((I.up d).up a).up x) rfl rfl z.oc rfl rfl) ?_)
 rintro _ _ ⟨bh, rfl, h, O⟩
 have ap := ao.t h
 refine Mw.nil (sr (la O (ms rfl (fl O rfl (Lw.ln N (z.up h).rd rfl (Lw.sub rfl (cr hm (fun _ => p68 (K := [0]) (k0 := 9) (k1 := 10) (c0 := 2) (c1 := 3) (x0 := (Vm.Repo.mk N x0.Heads)) (z.up h) (((((((V.up i).up f).up e).up d).up a).up x).up h) rfl) ?_)))))))
 rintro bi _ bj hm P ⟨aq, ar, rfl, Q, S⟩
 have au := ap.t P
 refine sta ((((((b6.up e).up d).up a).up x).up h).up P) (zaa Q.oc (zaa S.oc zaF)) fun bk A av => ?_
 have aw := au.t A
 refine nl ?_
 obtain ⟨bl, ax, B, ay⟩ := (Q.up A).dyeO 31
 have az := aw.t B
 obtain ⟨bm, a0, C, a1⟩ := ((S.up A).up B).dyeO 32
 have a3 := az.t C
 cases hm
 rw [← a0.trans (ax)]
 exact Cw.ret (zov rfl ((av.up B).up C) (Res.mk a3 ⟨aq, ar, rfl, (ay.up C).s, a1.s⟩))
theorem p157 {x0 d f x1 x2 x3 h x4 i k0 k1 c0 c1 c2 r} (k : Ow W c0 [] [d] x0.Commits) (x : Ow W c1 [] [f] x0.Heads) (y : Rd W K [h] x3) (z : Ow W c2 [] [i] x4) (hJ : okJ K [c0, c1, c2] = true) (hm : Vm.zbO x0 x1 x2 x3 x4 = some r) : Q1 157 [.agg [d, f].toArray, vS x1, vS x2, h, i] W [c0, c1, c2] fun W' v => ∃ a b, v = .agg [a, b].toArray ∧ Ow W' k0 [] [a] r.Commits ∧ Ow W' k1 [] [b] r.Heads :=
 zau.adJ (J := [c0, c1, c2]) (fun c => bif Nat.beq c 0 then 0 else bif Nat.beq c 2 then c0 else bif Nat.beq c 3 then c1 else bif Nat.beq c 4 then c2 else bif Nat.beq c 31 then k0 else bif Nat.beq c 32 then k1 else 0) (c157 (k.viewJ 0 hJ) (x.viewJ 1 hJ) (y.view _) (z.viewJ 2 hJ) hm) fun _ _ ⟨a, b, e, A, B⟩ => ⟨a, b, e, A.one1.backN rfl, B.one1.backN rfl⟩
theorem c156 {x0 D E x1 e f r} (Q : Rd W0 [0] [D, E] x0) (S : Ow W0 2 [] [e] x1.Commits) (T : Ow W0 3 [] [f] x1.Heads) (U : Gl 0 W0 [0]) (hm : Vm.zb6 x0 x1 = some r) : Q0 156 [.agg [D, E].toArray, .agg [e, f].toArray] W0 fun Wf v => ∃ F G, v = .tuple [.agg [F, G].toArray, vB r.2].toArray ∧ OwS Wf [31] [] [F] r.1.Commits ∧ OwS Wf [32] [] [G] r.1.Heads := by
 unfold Vm.zb6 at hm
 obtain ⟨az, a0, H, V, W⟩ := Repo.split Q
 simp only [List.cons.injEq, and_true, true_and] at H
 obtain ⟨rfl, rfl⟩ := H
 refine zau.of Tryz.func156 rfl rfl rfl rfl (sr (bo 4 rfl fun g1 W1 h X => ?_))
 have Y := h.o
 refine bo 5 rfl fun g5 W5 b I => ?_
 have Z := Y.n b
 refine al 6 [.slice none 0 0, .slice none 0 0] fun a7 a8 l10 J => ?_
 have L := Z.n l10
 have i := ((S.up h).up b).up l10
 have k := ((T.up h).up b).up l10
 refine Nb rfl (ssr (la (I.up l10) (ca hm (fun _ => p22 (K := [0, 2, 3]) (x0 := (Vm.Repo.mk x1.Commits x1.Heads)) ((Repo.rd (K := [2, 3]) x1.Commits x1.Heads (i.rd.sub (M := [2, 3]) rfl) (k.rd.sub (M := [2, 3]) rfl)).sub (M := [0, 2, 3]) rfl) ((U.ul L).sub (M := [0, 2, 3]) rfl)) fun a9 ba hm a => ?_)))
 have d := L.n a
 refine Lw.r rfl (R.not rfl) (nl (cn hm (fun hm => ?_) fun hm => ?_))
 ·refine sr (la (((X.up b).up l10).up a) (cr hm (fun _ => p67 (k0 := 7) (k1 := 8) (Repo.rd (K := [0]) x0.Commits x0.Heads (V.ul d) (W.ul d))) ?_))
  rintro bb _ bc hm N ⟨aa, ac, rfl, O, P⟩
  have ae := d.n N
  refine sta ((J.up a).up N) (zaa O.oc (zaa P.oc zaF)) fun be x af => ?_
  have ah := ae.t x
  refine Nb rfl ?_
  obtain ⟨bg, ai, y, aj⟩ := (O.up x).dyeO 31
  have ak := ah.t y
  obtain ⟨bh, am, z, an⟩ := ((P.up x).up y).dyeO 32
  have ao := ak.t z
  cases hm
  rw [← am.trans (ai)]
  exact Cw.ret (zfa rfl ((af.up y).up z) rfl (Res.mk ao ⟨aa, ac, rfl, (aj.up z).s, an.s⟩))
 ·refine sk (sr (la ((I.up l10).up a) (sta (J.up a) (zaa (i.up a).oc (zaa (k.up a).oc zaF)) fun bi A ap => ?_)))
  have aq := d.t A
  refine Nb rfl ?_
  obtain ⟨bj, ar, B, au⟩ := ((i.up a).up A).dyeO 31
  have av := aq.t B
  obtain ⟨bk, aw, C, ax⟩ := (((k.up a).up A).up B).dyeO 32
  have ay := av.t C
  cases hm
  rw [← aw.trans (ar)]
  exact Cw.ret (zfa rfl ((ap.up B).up C) rfl (Res.mk ay ⟨e, f, rfl, (au.up C).s, ax.s⟩))
theorem p156 {x0 d f x1 h i k0 k1 c0 c1 r} (k : Rd W K [d, f] x0) (x : Ow W c0 [] [h] x1.Commits) (y : Ow W c1 [] [i] x1.Heads) (z : Gl 0 W K) (hJ : okJ K [c0, c1] = true) (hm : Vm.zb6 x0 x1 = some r) : Q1 156 [.agg [d, f].toArray, .agg [h, i].toArray] W [c0, c1] fun W' v => ∃ a b, v = .tuple [.agg [a, b].toArray, vB r.2].toArray ∧ Ow W' k0 [] [a] r.1.Commits ∧ Ow W' k1 [] [b] r.1.Heads :=
 zau.adJ (J := [c0, c1]) (fun c => bif Nat.beq c 0 then 0 else bif Nat.beq c 2 then c0 else bif Nat.beq c 3 then c1 else bif Nat.beq c 31 then k0 else bif Nat.beq c 32 then k1 else 0) (c156 (k.view _) (x.viewJ 0 hJ) (y.viewJ 1 hJ) (z.view _) hm) fun _ _ ⟨a, b, e, A, B⟩ => ⟨a, b, e, A.one1.backN rfl, B.one1.backN rfl⟩
theorem c134 {x0 a x1 r} (y : Rd W0 [0] [a] x0) (hm : Vm.zlE x0 x1 = some r) : Q0 134 [a, vI x1] W0 fun Wf v => v = vI r := by
 unfold Vm.zlE at hm
 refine zau.of Tryz.func134 rfl rfl rfl rfl (sr (Ni rfl (ssr (Ni rfl (Cw.block ?_)))))
 obtain ⟨z, A, hm⟩ := zbk hm
 refine Cw.loop 6 19 [1, 4, 5] (fun m l w => ∃ b d e f, CW.w f = w ∧ Le [] W0 f ∧ l = [vI b, vI d, vI e] ∧ Vm.zhQ x0 z m b d e = some r) _ ⟨x1, 0, 0, W0, rfl, Le.refl _ _, rfl, hm⟩ ?_
 rintro (_ | B) _ _ σ ⟨b, d, e, f, rfl, k, rfl, hm⟩
 ·cases hm
 unfold Vm.zhQ at hm
 have h := k.o
 refine ssr ?_
 have i := y.ul h
 refine mi rfl (mv a rfl (Lw.ln x0 i rfl (Lw.lt rfl (nl (cn hm (fun hm => ?_) fun hm => ?_)))))
 ·refine sk (Cw.seq (Cw.block (ssr (mv a rfl (mi rfl ?_)))))
  obtain ⟨C, x, hm⟩ := ob hm
  refine Lw.r rfl (R.ix (α := Int) i x rfl rfl rfl) (Lw.r rfl (R.ld rfl rfl (i.at_ x).int) (mi rfl (Lw.ne rfl (nl (cn hm (fun hm => ?_) fun hm => ?_)))))
  ·exact sr (Ni rfl (.ret (rt hm h)))
  ·exact sk (rg (mi rfl (Lw.add rfl (Ni rfl (rg (mi rfl (Lw.add rfl (Ni rfl ((agm) ⟨w64 (b + 1), d, w64 (e + 1), f, rfl, k, rfl, hm⟩)))))))))
 ·refine Cw.exit ?_
  rw [A] at hm
  exact sr (mi rfl (Ni rfl (.ret (rt hm h))))
theorem p134 {x0 a x1 r} (b : Rd W K [a] x0) (hm : Vm.zlE x0 x1 = some r) : Q1 134 [a, vI x1] W [] fun W' v => v = vI r :=
 (c134 (b.view _) hm).ad (fk 0) fun _ _ e => e
theorem c135 {x0 b x1 r} (a : Rd W0 [0] [b] x0) (hm : Vm.zkt x0 x1 = some r) : Q0 135 [b, vI x1] W0 fun Wf v => v = vI r := by
 unfold Vm.zkt at hm
 refine zau.of Tryz.func135 rfl rfl rfl rfl (sr (Ni rfl (ssr (Ni rfl (Cw.block ?_)))))
 obtain ⟨D, E, hm⟩ := zbk hm
 refine Cw.loop 6 30 [1, 4, 5] (fun m l w => ∃ i d e k, CW.w k = w ∧ Le [] W0 k ∧ l = [vI i, vI d, vI e] ∧ Vm.zgY x0 D m i d e = some r) _ ⟨x1, 0, 0, W0, rfl, Le.refl _ _, rfl, hm⟩ ?_
 rintro (_ | J) _ _ σ ⟨i, d, e, k, rfl, A, rfl, hm⟩
 ·cases hm
 unfold Vm.zgY at hm
 have x := A.o
 refine ssr (mi rfl (mv b rfl (Lw.ln x0 (a.ul x) rfl (Lw.lt rfl (nl (cn hm (fun hm => ?_) fun hm => ?_))))))
 ·refine sk (Cw.seq (Cw.block (Cw.seq (Cw.seq (Cw.draw [] [(0, 0), (1, 0), (2, 0), (3, 0), (4, 1), (5, 0), (6, 2), (7, 0)] mixed (by kernel_rfl) fun K l10 => ?_)))))
  have f := x.n l10
  refine Dv b rfl (Di rfl ?_)
  obtain ⟨L, y, hm⟩ := ob hm
  refine Mw.p rfl rfl (fun _ => R.ix (α := File) (a.ul f) y rfl rfl rfl) (Df rfl (Mw.q rfl rfl (fun _ c => R.ld rfl rfl (zaz (File.at0 ((a.ul f).at_ y)).1 rfl (File.at0 ((a.ul f).at_ y)).str c)) (Di rfl ?_)))
  obtain ⟨M, F, hm⟩ := ob hm
  refine Mw.t rfl rfl (T.call rfl (p105   F)) ?_
  rintro _ _ ⟨N, rfl, z, rfl⟩
  have h := f.n z
  refine m0 z fun O => Mw.p rfl rfl (fun _ => R.sne rfl rfl) (Mw.nil (cn hm (fun hm => ?_) fun hm => ?_))
  ·exact sr (Ni rfl (.ret (rt hm h)))
  ·refine sk (sr (mi rfl (Lw.add rfl (Ni rfl (sr (mv b rfl (mi rfl ?_)))))))
   obtain ⟨P, B, hm⟩ := ob hm
   refine Lw.r rfl (R.ix (α := File) (a.ul h) B rfl rfl rfl) (Lw.fa rfl ?_)
   obtain ⟨Q, c24, r25⟩ := (File.at1 ((a.ul h).at_ B)).cell rfl
   refine Lw.r rfl (R.ld rfl rfl c24) (mi rfl (ca hm (fun _ => p37 r25) fun G H hm C => ?_))
   have I := h.n C
   refine Ni rfl (sr (mi rfl (Lw.lt rfl (nl (cn hm (fun hm => ?_) fun hm => ?_)))))
   ·exact sr (Ni rfl (.ret (rt hm I)))
   ·exact sk (rg (mi rfl (Lw.add rfl (Ni rfl ((agm) ⟨G, d, w64 (e + 1), H, rfl, (((A.j l10).j z).j C).w, rfl, hm⟩)))))
 ·refine Cw.exit ?_
  rw [E] at hm
  exact sr (mi rfl (Ni rfl (.ret (rt hm x))))
theorem p135 {x0 a x1 r} (b : Rd W K [a] x0) (hm : Vm.zkt x0 x1 = some r) : Q1 135 [a, vI x1] W [] fun W' v => v = vI r :=
 (c135 (b.view _) hm).ad (fk 0) fun _ _ e => e
theorem c75 {x0 a x1 r} (b : Rd W0 [0] [a] x0) (hm : Vm.ziX x0 x1 = some r) : Q0 75 [a, vI x1] W0 fun Wf v => v = vI r := by
 unfold Vm.ziX at hm
 refine zau.of Tryz.func75 rfl rfl rfl rfl (sr (Ni rfl (ssr (Ni rfl (Cw.block ?_)))))
 obtain ⟨I, J, hm⟩ := zbk hm
 refine Cw.loop 6 39 [1, 4, 5] (fun m l w => ∃ i d e k, CW.w k = w ∧ Le [] W0 k ∧ l = [vI i, vI d, vI e] ∧ Vm.zfK x0 I m i d e = some r) _ ⟨x1, 0, 0, W0, rfl, Le.refl _ _, rfl, hm⟩ ?_
 rintro (_ | O) _ _ σ ⟨i, d, e, k, rfl, B, rfl, hm⟩
 ·cases hm
 unfold Vm.zfK at hm
 have x := B.o
 refine ssr ?_
 have y := b.ul x
 refine mi rfl (mv a rfl (Lw.ln x0 y rfl (Lw.lt rfl (nl (cn hm (fun hm => ?_) fun hm => ?_)))))
 ·refine sk (Cw.seq (Cw.block (sr (mv a rfl (mi rfl ?_)))))
  obtain ⟨P, C, hm⟩ := ob hm
  refine Lw.r rfl (R.ix (α := Commit) y C rfl rfl rfl) (Lw.fa rfl ?_)
  obtain ⟨Q, c13, r14⟩ := (Commit.at0 (y.at_ C)).cell rfl
  refine Lw.r rfl (R.ld rfl rfl c13) (mi rfl (ca hm (fun _ => p134 r14) fun S U hm D => ?_))
  have E := x.n D
  refine Ni rfl (ssr (mi rfl (Lw.lt rfl (nl (cn hm (fun hm => ?_) fun hm => ?_)))))
  ·exact sr (Ni rfl (.ret (rt hm E)))
  ·refine sk (Cw.seq (Cw.seq (Cw.draw [] [(0, 0), (1, 0), (2, 0), (3, 0), (4, 1), (5, 0), (6, 2), (7, 0)] mixed (by kernel_rfl) fun V F => ?_)))
   have f := E.n F
   refine Dv a rfl (Di rfl ?_)
   obtain ⟨W, z, hm⟩ := ob hm
   refine Mw.p rfl rfl (fun _ => R.ix (α := Commit) (b.ul f) z rfl rfl rfl) (Df rfl (Mw.q rfl rfl (fun _ c => R.ld rfl rfl (zaz (Commit.at1 ((b.ul f).at_ z)).1 rfl (Commit.at1 ((b.ul f).at_ z)).str c)) (Di rfl ?_)))
   obtain ⟨X, K, hm⟩ := ob hm
   refine Mw.t rfl rfl (T.call rfl (p105   K)) ?_
   rintro _ _ ⟨Y, rfl, A, rfl⟩
   have h := f.n A
   refine m0 A fun Z => Mw.p rfl rfl (fun _ => R.sne rfl rfl) (Mw.nil (cn hm (fun hm => ?_) fun hm => ?_))
   ·exact sr (Ni rfl (.ret (rt hm h)))
   ·refine sk (sr (mi rfl (Lw.add rfl (Ni rfl (sr (mv a rfl (mi rfl ?_)))))))
    obtain ⟨aa, G, hm⟩ := ob hm
    refine Lw.r rfl (R.ix (α := Commit) (b.ul h) G rfl rfl rfl) (Lw.fa rfl ?_)
    obtain ⟨ac, c34, r35⟩ := (Commit.at2 ((b.ul h).at_ G)).cell rfl
    refine Lw.r rfl (R.ld rfl rfl c34) (mi rfl (ca hm (fun _ => p135 r35) fun L M hm H => ?_))
    have N := h.n H
    refine Ni rfl (sr (mi rfl (Lw.lt rfl (nl (cn hm (fun hm => ?_) fun hm => ?_)))))
    ·exact sr (Ni rfl (.ret (rt hm N)))
    ·exact sk (rg (mi rfl (Lw.add rfl (Ni rfl ((agm) ⟨L, d, w64 (e + 1), M, rfl, ((((B.j D).j F).j A).j H).w, rfl, hm⟩)))))
 ·refine Cw.exit ?_
  rw [J] at hm
  exact sr (mi rfl (Ni rfl (.ret (rt hm x))))
theorem p75 {x0 a x1 r} (b : Rd W K [a] x0) (hm : Vm.ziX x0 x1 = some r) : Q1 75 [a, vI x1] W [] fun W' v => v = vI r :=
 (c75 (b.view _) hm).ad (fk 0) fun _ _ e => e
theorem c76 {x0 b x1 r} (a : Rd W0 [0] [b] x0) (hm : Vm.zku x0 x1 = some r) : Q0 76 [b, vI x1] W0 fun Wf v => v = vI r := by
 unfold Vm.zku at hm
 refine zau.of Tryz.func76 rfl rfl rfl rfl (sr (Ni rfl (ssr (Ni rfl (Cw.block ?_)))))
 obtain ⟨C, D, hm⟩ := zbk hm
 refine Cw.loop 6 30 [1, 4, 5] (fun m l w => ∃ d e f k, CW.w k = w ∧ Le [] W0 k ∧ l = [vI d, vI e, vI f] ∧ Vm.zgZ x0 C m d e f = some r) _ ⟨x1, 0, 0, W0, rfl, Le.refl _ _, rfl, hm⟩ ?_
 rintro (_ | G) _ _ σ ⟨d, e, f, k, rfl, A, rfl, hm⟩
 ·cases hm
 unfold Vm.zgZ at hm
 have x := A.o
 refine ssr (mi rfl (mv b rfl (Lw.ln x0 (a.ul x) rfl (Lw.lt rfl (nl (cn hm (fun hm => ?_) fun hm => ?_))))))
 ·refine sk (Cw.seq (Cw.block (Cw.seq (Cw.seq (Cw.draw [] [(0, 0), (1, 0), (2, 0), (3, 0), (4, 1), (5, 0), (6, 2), (7, 0)] mixed (by kernel_rfl) fun H l10 => ?_)))))
  have h := x.n l10
  refine Dv b rfl (Di rfl ?_)
  obtain ⟨I, y, hm⟩ := ob hm
  refine Mw.p rfl rfl (fun _ => R.ix (α := Head) (a.ul h) y rfl rfl rfl) (Df rfl (Mw.q rfl rfl (fun _ c => R.ld rfl rfl (zaz (Head.at0 ((a.ul h).at_ y)).1 rfl (Head.at0 ((a.ul h).at_ y)).str c)) (Di rfl ?_)))
  obtain ⟨J, E, hm⟩ := ob hm
  refine Mw.t rfl rfl (T.call rfl (p105   E)) ?_
  rintro _ _ ⟨F, rfl, z, rfl⟩
  have i := h.n z
  refine m0 z fun K => Mw.p rfl rfl (fun _ => R.sne rfl rfl) (Mw.nil (cn hm (fun hm => ?_) fun hm => ?_))
  ·exact sr (Ni rfl (.ret (rt hm i)))
  ·refine sk (sr (mi rfl (Lw.add rfl (Ni rfl (ssr (mv b rfl (mi rfl ?_)))))))
   obtain ⟨L, B, hm⟩ := ob hm
   refine Lw.r rfl (R.ix (α := Head) (a.ul i) B rfl rfl rfl) (Lw.fa rfl (Lw.r rfl (R.ld rfl rfl (Head.at1 ((a.ul i).at_ B)).int) (mi rfl (Lw.ne rfl (nl (cn hm (fun hm => ?_) fun hm => ?_))))))
   ·exact sr (Ni rfl (.ret (rt hm i)))
   ·exact sk (rg (mi rfl (Lw.add rfl (Ni rfl (rg (mi rfl (Lw.add rfl (Ni rfl ((agm) ⟨w64 ((w64 (d + 1)) + 1), e, w64 (f + 1), F, rfl, ((A.j l10).j z).w, rfl, hm⟩)))))))))
 ·refine Cw.exit ?_
  rw [D] at hm
  exact sr (mi rfl (Ni rfl (.ret (rt hm x))))
theorem p76 {x0 a x1 r} (b : Rd W K [a] x0) (hm : Vm.zku x0 x1 = some r) : Q1 76 [a, vI x1] W [] fun W' v => v = vI r :=
 (c76 (b.view _) hm).ad (fk 0) fun _ _ e => e
theorem c17 {x0 b d x1 r} (x : Rd W0 [0] [b, d] x0) (hm : Vm.zh7 x0 x1 = some r) : Q0 17 [.agg [b, d].toArray, vI x1] W0 fun Wf v => v = vI r := by
 unfold Vm.zh7 at hm
 obtain ⟨C, D, e, y, z⟩ := Repo.split x
 simp only [List.cons.injEq, and_true, true_and] at e
 obtain ⟨rfl, rfl⟩ := e
 refine zau.of Tryz.func17 rfl rfl rfl rfl (sr (bo 2 rfl fun E F A f => ?_))
 have h := A.o
 refine Ni rfl (sr (fl f rfl (mi rfl (ca hm (fun _ => p75 (y.ul h)) fun G H hm i => ?_))))
 have a := h.n i
 refine Ni rfl (ssr (mi rfl (Lw.lt rfl (nl (cn hm (fun hm => ?_) fun hm => ?_)))))
 ·exact sr (Ni rfl (.ret (rt hm a)))
 ·refine sk (sr (fl (f.up i) rfl (mi rfl (ca hm (fun _ => p76 (z.ul a)) fun I J hm B => ?_))))
  have k := a.n B
  refine Ni rfl (ssr (mi rfl (Lw.lt rfl (nl (cn hm (fun hm => ?_) fun hm => ?_)))))
  ·exact sr (Ni rfl (.ret (rt hm k)))
  ·exact sk (sr (mi rfl (Ni rfl (.ret (rt hm k)))))
theorem p17 {x0 a b x1 r} (d : Rd W K [a, b] x0) (hm : Vm.zh7 x0 x1 = some r) : Q1 17 [.agg [a, b].toArray, vI x1] W [] fun W' v => v = vI r :=
 (c17 (d.view _) hm).ad (fk 0) fun _ _ e => e
end Go.Sx
