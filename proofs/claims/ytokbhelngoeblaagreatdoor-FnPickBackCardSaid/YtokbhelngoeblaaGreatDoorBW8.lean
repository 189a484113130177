/- Walks: each function answers as its model, printed by a program of ours. Conditions: the arguments read as they are given. -/
import Derived.Test.YtokbhelngoeblaaGreatDoorBTs
import Derived.Test.YtokbhelngoeblaaGreatDoorBM0
import Derived.Test.YtokbhelngoeblaaGreatDoorBW6
import Derived.Test.YtokbhelngoeblaaGreatDoorBW7
namespace Go.Sx
open Go Go.Proofs Go.Vm Rp
set_option linter.unusedVariables false
set_option linter.unusedSimpArgs false
variable {W W0 : CW} {K : List Nat}
theorem c116 {x0 z x1 B x2 C r} (L : Rd W0 [0] [z] x0) (h1 : Rd W0 [0] [B] x1) (h2 : Rd W0 [0] [C] x2) (bb : Gl 0 W0 [0]) (hm : Vm.zgy x0 x1 x2 = some r) : Q0 116 [z, B, C] W0 fun Wf v => ∃ u0 u1, v = .tuple [u0, u1].toArray ∧ OwS (α := List (Sh Vm.File)) Wf [31] [0] [u0] r.1 ∧ OwS Wf [32] [] [u1] r.2 := by
 unfold Vm.zgy at hm
 refine zaI.of Tryz.func116 rfl rfl rfl rfl (sr (Gv (.slice none 0 0) rfl (Nv (.slice none 0 0) rfl (ssr (mv z rfl (mv B rfl (mv C rfl (ca hm (fun _ => p115 L h1 h2 bb) fun z1 W3 hm l3 => ?_))))))))
 have N := l3.o
 refine Lw.r rfl (R.not rfl) (nl (cn hm (fun hm => ?_) fun hm => ?_))
 ·refine sr (Gv (.slice none 0 0) rfl (Nv (.slice none 0 0) rfl ?_))
  cases hm
  exact Cw.ret (zmZ rfl rfl (Res.mk N ⟨.slice none 0 0, .slice none 0 0, rfl, (zo4 [0]).sub rfl rfl, (zoh []).sub rfl rfl⟩))
 ·refine sk (sr (Nv (.slice none 0 0) rfl (sr (Nv (.slice none 0 0) rfl (ssr (mv z rfl (mv B rfl (mv C rfl (Lw.t rfl (T.bsS (α := Sh (List File)) (xs := [x0, x1, x2]) 2 [0] (W := W3) [z, B, C] (bsE [[z], [B], [C]] (zx0 L.oc (zx0 h1.oc (zx0 h2.oc zxZ))) (Each.cons ((L.ul N).sh1) (Each.cons ((h1.ul N).sh1) (Each.cons ((h2.ul N).sh1) Each.nil)))) rfl) ?_)))))))))
  rintro v9 _ ⟨W9, rfl, l9, o9⟩
  have cj := N.n l9
  have ck : Rd (α := List (List Vm.File)) W9 [2, 0] [v9] ([x0, x1, x2] : List (List File)) := Ow.rdSh o9
  refine cr hm (fun _ => p161 (K := [0, 2]) (k0 := 3) (ck.sub (M := [0, 2]) rfl)) ?_
  rintro bg ej bh hm cl ⟨_, rfl, au⟩
  have cm := cj.n cl
  refine Lw.ln bg au.rd rfl (mi rfl (nl (Cw.block ?_)))
  obtain ⟨co, cp, hm⟩ := zc1 hm
  refine Cw.loop 25 59 [8, 9, 11, 12, 13, 25] (fun m l w => ∃ (F : List Vm.File) (O : List Vm.Clash) (af : Int) (d h bi bj bk : Value) (i : CW), i.w = w ∧ Le [4, 5, 6, 7, 8, 9] bh i ∧ l = [d, h, bi, bj, bk, vI af] ∧ Ow (α := List (Sh Vm.File)) i 4 [0] [d] F ∧ Ow i 5 [] [h] O ∧ Vm.zcA x0 x1 x2 bg co m F O af = some r) _ ⟨([] : List File), ([] : List Clash), 0, .slice none 0 0, .slice none 0 0, undef, undef, undef, bh, rfl, Le.refl _ _, rfl, zx3 4 [0], owN 5 [], hm⟩ ?_
  rintro (_ | ek) _ _ σ ⟨F, O, af, d, h, bi, bj, bk, i, rfl, ah, rfl, av, aw, hm⟩
  ·cases hm
  unfold Vm.zcA at hm
  have ai := cm.t ah
  refine sr (Lw.lt rfl (nl (Cw.seq (cn hm (fun hm => ?_) fun hm => ?_))))
  ·refine sk ?_
   obtain ⟨cq, ct, hm⟩ := zc1 hm
   refine Cw.join 27 58 [8, 9, 11, 12, 13] (fun l w => ∃ (aj : List Vm.File) (ak : List Vm.Clash) (am an ax ay az : Value) (G : CW), G.w = w ∧ Le [4, 5, 6, 7, 8, 9] i G ∧ l = [am, an, ax, ay, az] ∧ Ow (α := List (Sh Vm.File)) G 4 [0] [am] aj ∧ Ow G 5 [] [an] ak ∧ cq aj ak = some r) ?_ ?_
   ·rintro _ _ σ ⟨aj, ak, am, an, ax, ay, az, G, rfl, cu, rfl, cv, cw, hm⟩
    rw [ct] at hm
    exact rg (Lw.add rfl (mi rfl (nl ((agm) ⟨aj, ak, w64 (af + 1), am, an, ax, ay, az, G, rfl, (ah.j cu).w, rfl, cv, cw, hm⟩))))
   ·refine Cw.block (sr ?_)
    obtain ⟨b, bl, hm⟩ := ob hm
    refine Lw.r rfl (R.ix (α := Str) (au.up ah).rd bl rfl rfl rfl) (Lw.r rfl (R.ld rfl rfl ((au.up ah).rd.at_ bl).str) (Ns rfl (sr (mv z rfl (ms rfl (cr hm (fun _ => p163 (k0 := 6) (L.ul ai)) ?_))))))
    rintro P _ el hm Q ⟨cx, rfl, cy⟩
    have bm := ai.n Q
    refine mv B rfl (ms rfl (cr hm (fun _ => p163 (k0 := 7) (h1.ul bm)) ?_))
    rintro S _ em hm H ⟨cz, rfl, bn⟩
    have c0 := bm.n H
    refine mv C rfl (ms rfl (cr hm (fun _ => p163 (k0 := 8) (h2.ul c0)) ?_))
    rintro U _ en hm D ⟨c1, rfl, bp⟩
    have bq := (cy.up H).up D
    refine cr hm (fun _ => p162 (K := [6, 7, 8]) (x0 := (Vm.has.mk P.text P.file)) (x1 := (Vm.has.mk S.text S.file)) (x2 := (Vm.has.mk U.text U.file)) ((has.rd (K := [6]) P.text P.file bq.rd).sub (M := [6, 7, 8]) rfl) ((has.rd (K := [7]) S.text S.file (bn.up D).rd).sub (M := [6, 7, 8]) rfl) ((has.rd (K := [8]) U.text U.file bp.rd).sub (M := [6, 7, 8]) rfl)) ?_
    rintro a _ eo hm E ⟨e, rfl, c2⟩
    have ao := c2.sub (M := [0, 6, 7, 8]) rfl
    refine mv (.tuple [.agg [e, vB a.1.file].toArray, vI a.2].toArray) rfl (Lw.r rfl (R.ext (vs := [.agg [e, vB a.1.file].toArray, vI a.2]) (v := .agg [e, vB a.1.file].toArray) rfl rfl) (Lw.r rfl (R.ext (vs := [.agg [e, vB a.1.file].toArray, vI a.2]) (v := vI a.2) rfl rfl) (al 9 [.slice none 0 0, vB false] fun br ep k c3 => sta c3 (zab ao.oc (zab rfl za3)) fun bu y bv => ?_)))
    have bw := (((((aw.up Q).up H).up D).up E).up k).up y
    refine Ni rfl ?_
    obtain ⟨c4, c5, hm⟩ := zc1 hm
    refine Cw.join 42 49 [9] (fun l w => ∃ V X Y, CW.w Y = w ∧ Le [5] bu Y ∧ l = [X] ∧ Ow Y 5 [] [X] V ∧ c4 V = some r) ?_ ?_
    ·rintro _ _ σ ⟨V, X, Y, rfl, f, rfl, bz, hm⟩
     rw [c5] at hm
     have b0 := ((((((av.up Q).up H).up D).up E).up k).up y).up f
     refine sr (fl (bv.up f) rfl (nl (cn hm (fun hm => ?_) fun hm => ?_)))
     ·refine rg (mv d rfl (ms rfl (fl (bv.up f) rfl (Lw.r rfl (R.bd (zs := [vS ([] : Str), .slice none 0 0]) (cs := [vS b, e]) [(0, vS b), (1, e)] rfl rfl rfl (zbo rfl rfl (zbo ao.oc rfl zfH))) (Lw.t rfl (T.bs 10 [.agg [vS b, e].toArray] (cs := [vS b, e]) rfl rfl (bsA rfl)) ?_)))))
      rintro _ _ ⟨er, c6, rfl, rfl, A, c7⟩
      have c8 := ao.up ((k.sub (M := [5, 9]) rfl).trans ((y.sub (M := [5, 9]) rfl).trans ((f.sub (M := [5, 9]) rfl).trans (A.sub (M := [5, 9]) rfl)))) rfl
      have c9 : Ow (α := List (Sh Vm.File)) c6 4 [0, 6, 7, 8] [d] F := (b0.up A).sub rfl
      obtain ⟨ap, da, hm⟩ := ob hm
      refine Lw.t rfl (T.app1S (α := Sh Vm.File) (K' := [0, 6, 7, 8]) c9 c7 (File.rd (K := [0, 6, 7, 8]) b a.1.text c8).sh1 rfl rfl da) ?_
      rintro Z _ ⟨es, rfl, I, db⟩
      refine Nv Z rfl ?_
      have dc := ao.up ((k.sub (M := [4, 5, 9]) rfl).trans ((y.sub (M := [4, 5, 9]) rfl).trans ((f.sub (M := [4, 5, 9]) rfl).trans ((A.sub (M := [4, 5, 9]) rfl).trans (I.sub (M := [4, 5, 9]) rfl))))) rfl
      obtain ⟨a0, dd, aq, a1⟩ := zlp _ 6
      have de : Rd a0 [0, 7, 8] [e] a.1.text := by rw [a1]; exact (dc.dye 6).sub (M := [0, 7, 8]) rfl
      have df : Ow (α := List (Sh Vm.File)) a0 4 [0, 7, 8] [Z] ap := by rw [a1]; exact (db.dyeA 6 rfl).sub rfl
      have et : Rd (α := List Str) a0 [0] [cx] P.text := by rw [a1]; exact (((((((bq.up E).up k).up y).up f).up A).up I).rd.dye 6).sub (M := [0]) rfl
      obtain ⟨a2, dg, a3, a5⟩ := zlp _ 7
      have dh : Rd a2 [0, 8] [e] a.1.text := by rw [a5]; exact (de.dye 7).sub (M := [0, 8]) rfl
      have di : Ow (α := List (Sh Vm.File)) a2 4 [0, 8] [Z] ap := by rw [a5]; exact (df.dyeA 7 rfl).sub rfl
      have eu : Rd (α := List Str) a2 [0] [cz] S.text := by rw [a5]; exact (((((((((bn.up D).up E).up k).up y).up f).up A).up I).up aq).rd.dye 7).sub (M := [0]) rfl
      obtain ⟨ar, dj, b1, a6⟩ := zlp _ 8
      have ew : Rd ar [0] [e] a.1.text := by rw [a6]; exact (dh.dye 8).sub (M := [0]) rfl
      have dk : Ow (α := List (Sh Vm.File)) ar 4 [0] [Z] ap := by rw [a6]; exact (di.dyeA 8 rfl).sub rfl
      have ex : Rd (α := List Str) ar [0] [c1] U.text := by rw [a6]; exact (((((((((bp.up E).up k).up y).up f).up A).up I).up aq).up a3).rd.dye 8).sub (M := [0]) rfl
      exact (ag) ⟨ap, V, Z, X, vS b, ptr (bx br), vI a.2, ar, dj.trans (dg.trans (dd)), (((((((((((Q.j H).j D).j E).j k).j y).j f).j A).j I).j aq).j a3).j b1).w, rfl, dk, (((((bz.up A).up I).up aq).up a3).up b1), hm⟩
     ·exact sk ((ag) ⟨F, V, d, X, vS b, ptr (bx br), vI a.2, Y, rfl, ((((((Q.j H).j D).j E).j k).j y).j f).w, rfl, b0, bz, hm⟩)
    ·refine sr (mi rfl (Lw.ne rfl (nl (cn hm (fun hm => ?_) fun hm => ?_))))
     ·refine rg (mv h rfl (ms rfl (mi rfl (Lw.r rfl (R.bd (zs := [vS ([] : Str), vI 0]) (cs := [vS b, vI a.2]) [(0, vS b), (1, vI a.2)] rfl rfl rfl (zbo rfl rfl (zbo rfl rfl zfH))) (Lw.t rfl (T.bs 11 [.agg [vS b, vI a.2].toArray] (cs := [vS b, vI a.2]) rfl rfl (bsA rfl)) ?_)))))
      rintro _ _ ⟨ey, ez, rfl, rfl, b2, dl⟩
      obtain ⟨dm, dn, hm⟩ := ob hm
      refine Lw.t rfl (T.app1S (α := Clash) (K' := []) (bw.up b2) dl (Clash.rd (K := []) b a.2) rfl rfl dn) ?_
      rintro b3 _ ⟨dp, rfl, dq, dr⟩
      exact Nv b3 rfl ((ag) ⟨dm, b3, dp, rfl, (b2.j dq).w, rfl, dr, hm⟩)
     ·exact sk ((ag) ⟨O, h, bu, rfl, Le.refl _ _, rfl, bw, hm⟩)
  ·refine Cw.exit ?_
   rw [cp] at hm
   refine Cw.seq ?_
   obtain ⟨ds, dt, hm⟩ := zc1 hm
   refine Cw.join 60 67 [67] (fun l w => ∃ a7 a8, CW.w a8 = w ∧ Le [] i a8 ∧ l = [vB a7] ∧ ds a7 = some r) ?_ ?_
   ·rintro _ _ σ ⟨a7, a8, rfl, a9, rfl, hm⟩
    rw [dt] at hm
    have ba := ai.n a9
    refine cn hm (fun hm => ?_) fun hm => ?_
    ·refine sr (mv z rfl (cr hm (fun _ => p88 (k0 := 12) (L.ul ba)) ?_))
     rintro e0 b4 e1 hm du ⟨_, rfl, dv⟩
     have dw := ba.n du
     refine Lw.r rfl (R.bd (zs := [vS ([] : Str), vI 0]) (cs := [vS ([] : Str), vI 4]) [(1, vI 4)] rfl rfl rfl (zbo rfl rfl zfH)) (Lw.t rfl (T.bsO (α := Clash) (J := []) (xs := [Vm.Clash.mk ([] : Str) 4]) 13 [.agg [vS ([] : Str), vI 4].toArray] (bsL [[vS ([] : Str), vI 4]] (zyK rfl zxZ) (OwL.cons (x := (Vm.Clash.mk ([] : Str) 4)) (OwS.atm (K := []) (Clash.rd (K := []) ([] : Str) 4)) OwL.nil)) rfl) ?_)
     rintro b5 _ ⟨e2, rfl, b6, dx⟩
     have dy := dw.n b6
     refine Gv b4 rfl (Nv b5 rfl ?_)
     obtain ⟨e3, dz, b7, d0⟩ := (dv.up b6).toSh
     have d1 := dy.t b7
     obtain ⟨e4, d2, b8, d3⟩ := d0.dyeO 31
     have d4 := d1.t b8
     obtain ⟨e5, d5, b9, d6⟩ := ((dx.up b7).up b8).dyeO 32
     have d7 := d4.t b9
     cases hm
     rw [← d5.trans (d2.trans (dz))]
     exact Cw.ret (zmZ rfl rfl (Res.mk d7 ⟨b4, b5, rfl, (d3.up b9).s, d6.s⟩))
    ·refine sk (sr (mv d rfl (mv h rfl (Gv d rfl (Nv h rfl ?_)))))
     obtain ⟨e6, d8, cb, d9⟩ := (av.up a9).dyeO 31
     have ea := ba.t cb
     obtain ⟨e7, eb, cc, ec⟩ := ((aw.up a9).up cb).dyeO 32
     have ed := ea.t cc
     cases hm
     rw [← eb.trans (d8)]
     exact Cw.ret (zmZ rfl rfl (Res.mk ed ⟨d, h, rfl, (d9.up cc).s, ec.s⟩))
   ·refine rg (mv h rfl (Lw.ln O aw.rd rfl (Lw.eq rfl (mb rfl (bs hm (fun aa hm => ?_) fun aa hm => ?_)))))
    ·refine wak 3 aa (mv d rfl ?_)
     have ee : Rd (α := List Vm.File) i [4, 0] [d] F := Ow.rdSh av
     exact ca hm (fun _ => p85 (K := [0, 4]) (ee.sub (M := [0, 4]) rfl) ((bb.ul ai).sub (M := [0, 4]) rfl)) fun ef eg hm eh => Lw.r rfl (R.not rfl) (Pb aa rfl (nl ((ag) ⟨(!ef), eg, rfl, eh, rfl, hm⟩)))
    ·exact psk 3 aa rfl (Pb aa rfl (nl ((ag) ⟨false, i, rfl, Le.refl _ _, rfl, hm⟩)))
theorem p116 {x0 d x1 f x2 h k0 k1 r} (i : Rd W K [d] x0) (k : Rd W K [f] x1) (x : Rd W K [h] x2) (y : Gl 0 W K) (hm : Vm.zgy x0 x1 x2 = some r) : Q1 116 [d, f, h] W [] fun W' v => ∃ a b, v = .tuple [a, b].toArray ∧ Ow (α := List (Sh Vm.File)) W' k0 (0 :: K) [a] r.1 ∧ Ow W' k1 [] [b] r.2 :=
 zaI.adJ (J := []) (fun c => bif Nat.beq c 0 then 0 else bif Nat.beq c 31 then k0 else bif Nat.beq c 32 then k1 else 0) (c116 (i.view _) (k.view _) (x.view _) (y.view _) hm) fun _ _ ⟨a, b, e, z, A⟩ => ⟨a, b, e, z.one1.backNS rfl rfl, A.one1.backN rfl⟩
theorem c47 {x0 e x1 f x2 h r} (i : Rd W0 [0] [e] x0) (k : Rd W0 [0] [f] x1) (x : Rd W0 [0] [h] x2) (y : Gl 0 W0 [0]) (hm : Vm.zb8 x0 x1 x2 = some r) : Q0 47 [e, f, h] W0 fun Wf v => ∃ z, v = .tuple [z, vB r.2].toArray ∧ OwS (α := List (Sh Vm.File)) Wf LL [0] [z] r.1 := by
 unfold Vm.zb8 at hm
 refine zaI.of Tryz.func47 rfl rfl rfl rfl (sr (Gv (.slice none 0 0) rfl (Nb rfl (ssr (mv e rfl (mv f rfl (mv h rfl (ca hm (fun _ => p115 i k x y) fun I J hm C => ?_))))))))
 have b := C.o
 refine Lw.r rfl (R.not rfl) (nl (cn hm (fun hm => ?_) fun hm => ?_))
 ·refine sr (Gv (.slice none 0 0) rfl (Nb rfl ?_))
  cases hm
  exact Cw.ret (zmZ rfl rfl (Res.mk b ⟨.slice none 0 0, rfl, (zo4 [0]).sub rfl rfl⟩))
 ·refine sk (sr (mv e rfl (mv f rfl (mv h rfl (cr hm (fun _ => p116 (k0 := 2) (k1 := 3) (i.ul b) (k.ul b) (x.ul b) (y.ul b)) ?_)))))
  rintro A _ D hm E ⟨a, d, rfl, F, G⟩
  have H : Ow (α := List (Sh Vm.File)) D 2 [0] [a] A.1 := F.sub rfl
  have B := b.n E
  refine mv (.tuple [a, d].toArray) rfl (Lw.r rfl (R.ext (vs := [a, d]) (v := a) rfl rfl) (Lw.r rfl (R.ext (vs := [a, d]) (v := d) rfl rfl) (Gv a rfl (Nv d rfl (ssr (mv d rfl (Lw.ln A.2 G.rd rfl (Lw.gt rfl (nl (cn hm (fun hm => ?_) fun hm => ?_))))))))))
  ·refine sr (Gv (.slice none 0 0) rfl (Nb rfl ?_))
   cases hm
   exact Cw.ret (zmZ rfl rfl (Res.mk B ⟨.slice none 0 0, rfl, (zo4 [0]).sub rfl rfl⟩))
  ·refine sk (sr (mv a rfl (Gv a rfl (Nb rfl ?_))))
   cases hm
   exact Cw.ret (zmZ rfl rfl (Res.mk B ⟨a, rfl, H.s.sub rfl rfl⟩))
theorem p47 {x0 b x1 d x2 f k0 r} (h : Rd W K [b] x0) (i : Rd W K [d] x1) (k : Rd W K [f] x2) (x : Gl 0 W K) (hm : Vm.zb8 x0 x1 x2 = some r) : Q1 47 [b, d, f] W [] fun W' v => ∃ a, v = .tuple [a, vB r.2].toArray ∧ Ow (α := List (Sh Vm.File)) W' k0 (0 :: K) [a] r.1 :=
 (c47 (h.view _) (i.view _) (k.view _) (x.view _) hm).ad (fk k0) fun _ _ ⟨a, e, y⟩ => ⟨a, e, y.backS (zkb _) rfl⟩
theorem c41 {x0 b x1 e r} (d : Rd W0 [0] [b] x0) (f : Rd W0 [0] [e] x1) (hm : Vm.zfz x0 x1 = some r) : Q0 41 [b, e] W0 fun Wf v => v = vB r := by
 unfold Vm.zfz at hm
 refine zaI.of Tryz.func41 rfl rfl rfl rfl (sr (Nb rfl (ssr (mv b rfl (Lw.ln x0 d rfl (mv e rfl (Lw.ln x1 f rfl (Lw.ne rfl (nl (cn hm (fun hm => ?_) fun hm => ?_))))))))))
 ·exact sr (Nb rfl (.ret (rt hm (Le.refl _ _))))
 ·refine sk (ssr (Ni rfl (Cw.block ?_)))
  obtain ⟨B, C, hm⟩ := zc1 hm
  refine Cw.loop 11 25 [4, 5] (fun m l w => ∃ h i k, CW.w k = w ∧ Le [] W0 k ∧ l = [vB h, vI i] ∧ Vm.zb6 x0 x1 B m h i = some r) _ ⟨false, 0, W0, rfl, Le.refl _ _, rfl, hm⟩ ?_
  rintro (_ | E) _ _ σ ⟨h, i, k, rfl, A, rfl, hm⟩
  ·cases hm
  unfold Vm.zb6 at hm
  have x := A.o
  refine ssr (mi rfl (mv b rfl (Lw.ln x0 (d.ul x) rfl (Lw.lt rfl (nl (cn hm (fun hm => ?_) fun hm => ?_))))))
  ·refine sk (Cw.seq (Cw.block (Cw.seq (Cw.draw [] [(0, 0), (1, 0), (2, 0), (3, 1), (4, 0), (5, 0), (6, 0), (7, 1), (8, 0)] mixed (by kernel_rfl) fun D l10 => ?_))))
   have a := x.n l10
   refine Dv b rfl (Di rfl ?_)
   obtain ⟨F, y, hm⟩ := ob hm
   refine Mw.p rfl rfl (fun _ => R.ix (α := Str) (d.ul a) y rfl rfl rfl) (Mw.q rfl rfl (fun _ c => R.ld rfl rfl (zaE ((d.ul a).at_ y).1 rfl ((d.ul a).at_ y).str c)) (Dv e rfl (Di rfl ?_)))
   obtain ⟨G, z, hm⟩ := ob hm
   refine Mw.p rfl rfl (fun _ => R.ix (α := Str) (f.ul a) z rfl rfl rfl) (Mw.q rfl rfl (fun _ c => R.ld rfl rfl (zaE ((f.ul a).at_ z).1 rfl ((f.ul a).at_ z).str c)) (Mw.p rfl rfl (fun _ => R.sne rfl rfl) (Mw.nil (cn hm (fun hm => ?_) fun hm => ?_))))
   ·exact sr (Nb rfl (.ret (rt hm a)))
   ·exact sk (rg (mi rfl (Lw.add rfl (Ni rfl ((agm) ⟨h, w64 (i + 1), D, rfl, (A.j l10).w, rfl, hm⟩)))))
  ·refine Cw.exit ?_
   rw [C] at hm
   exact sr (Nb rfl (.ret (rt hm x)))
theorem p41 {x0 a x1 b r} (d : Rd W K [a] x0) (f : Rd W K [b] x1) (hm : Vm.zfz x0 x1 = some r) : Q1 41 [a, b] W [] fun W' v => v = vB r :=
 (c41 (d.view _) (f.view _) hm).ad (fk 0) fun _ _ e => e
theorem c21 {x0 b x1 h r} (z : Rd W0 [0] [b] x0) (G : Rd W0 [0] [h] x1) (hm : Vm.zdL x0 x1 = some r) : Q0 21 [b, h] W0 fun Wf v => v = vB r := by
 unfold Vm.zdL at hm
 refine zaI.of Tryz.func21 rfl rfl rfl rfl (sr (Nb rfl (ssr (mv b rfl (Lw.ln x0 z rfl (mv h rfl (Lw.ln x1 G rfl (Lw.ne rfl (nl (cn hm (fun hm => ?_) fun hm => ?_))))))))))
 ·exact sr (Nb rfl (.ret (rt hm (Le.refl _ _))))
 ·refine sk (ssr (Ni rfl (Cw.block ?_)))
  obtain ⟨M, N, hm⟩ := zc1 hm
  refine Cw.loop 11 41 [4, 5] (fun m l w => ∃ i d k, CW.w k = w ∧ Le [] W0 k ∧ l = [vB i, vI d] ∧ Vm.zcB x0 x1 M m i d = some r) _ ⟨false, 0, W0, rfl, Le.refl _ _, rfl, hm⟩ ?_
  rintro (_ | W) _ _ σ ⟨i, d, k, rfl, H, rfl, hm⟩
  ·cases hm
  unfold Vm.zcB at hm
  have x := H.o
  refine ssr (mi rfl (mv b rfl (Lw.ln x0 (z.ul x) rfl (Lw.lt rfl (nl (cn hm (fun hm => ?_) fun hm => ?_))))))
  ·refine sk (Cw.seq (Cw.block ?_))
   obtain ⟨O, P, hm⟩ := zc1 hm
   refine Cw.join 17 41 [41] (fun l w => ∃ A y, CW.w y = w ∧ Le [] k y ∧ l = [vB A] ∧ O A = some r) ?_ ?_
   ·rintro _ _ σ ⟨A, y, rfl, I, rfl, hm⟩
    rw [P] at hm
    have Q := x.n I
    refine cn hm (fun hm => ?_) fun hm => ?_
    ·exact sr (Nb rfl (.ret (rt hm Q)))
    ·exact sk (rg (mi rfl (Lw.add rfl (Ni rfl ((agm) ⟨i, w64 (d + 1), y, rfl, (H.j I).w, rfl, hm⟩)))))
   ·refine Cw.draw [] [(0, 0), (1, 0), (2, 0), (3, 0), (4, 1), (5, 0), (6, 0), (7, 0), (8, 0), (9, 1), (10, 0), (11, 0), (12, 0), (13, 0), (14, 0), (15, 0), (16, 1), (17, 0), (18, 0), (19, 0), (20, 0), (21, 1), (22, 2), (23, 0), (24, 0)] mixed (by kernel_rfl) fun S B => ?_
    have J := x.n B
    refine Dv b rfl (Di rfl ?_)
    obtain ⟨X, C, hm⟩ := ob hm
    have e := z.ul J
    refine Mw.p rfl rfl (fun _ => R.ix (α := File) e C rfl rfl rfl) (Df rfl (Mw.q rfl rfl (fun _ c => R.ld rfl rfl (zaE (File.at0 (e.at_ C)).1 rfl (File.at0 (e.at_ C)).str c)) (Dv h rfl (Di rfl ?_))))
    obtain ⟨Y, D, hm⟩ := ob hm
    have f := G.ul J
    refine Mw.p rfl rfl (fun _ => R.ix (α := File) f D rfl rfl rfl) (Df rfl (Mw.q rfl rfl (fun _ c => R.ld rfl rfl (zaE (File.at0 (f.at_ D)).1 rfl (File.at0 (f.at_ D)).str c)) (Mw.p rfl rfl (fun _ => R.sne rfl rfl) (Db rfl (bs hm (fun a hm => ?_) fun a hm => ?_)))))
    ·exact dps 12 a rfl (Mw.p rfl rfl (fun _ => R.pk a rfl (v := vB true) rfl) (Mw.nil ((ag) ⟨true, S, rfl, B, rfl, hm⟩)))
    ·refine Wp a rfl (fun _ => R.mv (v := b) rfl) (Wp a rfl (fun _ => R.mv (v := vI d) rfl) ?_)
     obtain ⟨Z, E, hm⟩ := ob hm
     refine Wp a rfl (fun _ => R.ix (α := File) e E rfl rfl rfl) (Wp a rfl (fun _ => R.fa rfl) ?_)
     obtain ⟨aa, c27, r28⟩ := (File.at1 (e.at_ E)).cell rfl
     refine Wq a rfl (fun _ c => R.ld rfl rfl (zaE (File.at1 (e.at_ E)).1 rfl c27 c)) (Wp a rfl (fun _ => R.mv (v := h) rfl) (Wp a rfl (fun _ => R.mv (v := vI d) rfl) ?_))
     obtain ⟨ac, F, hm⟩ := ob hm
     refine Wp a rfl (fun _ => R.ix (α := File) f F rfl rfl rfl) (Wp a rfl (fun _ => R.fa rfl) ?_)
     obtain ⟨ae, c32, r33⟩ := (File.at1 (f.at_ F)).cell rfl
     refine Wq a rfl (fun _ c => R.ld rfl rfl (zaE (File.at1 (f.at_ F)).1 rfl c32 c)) ?_
     obtain ⟨K, U, hm⟩ := ob hm
     refine Wt a rfl (T.call rfl (p41  r28 r33 U)) ?_
     rintro _ _ ⟨V, rfl, L, rfl⟩
     exact m0 L fun af => Wp a rfl (fun _ => R.not rfl) (Mw.p rfl rfl (fun _ => R.pk a rfl (v := vB (!K)) rfl) (Mw.nil ((ag) ⟨(!K), V, rfl, (B.j L).w, rfl, hm⟩)))
  ·refine Cw.exit ?_
   rw [N] at hm
   exact sr (Nb rfl (.ret (rt hm x)))
theorem p21 {x0 a x1 b r} (d : Rd W K [a] x0) (f : Rd W K [b] x1) (hm : Vm.zdL x0 x1 = some r) : Q1 21 [a, b] W [] fun W' v => v = vB r :=
 (c21 (d.view _) (f.view _) hm).ad (fk 0) fun _ _ e => e
theorem c23 {x0 y z x1 r} (F : Rd W0 [0] [y, z] x0) (G : Gl 0 W0 [0]) (hm : Vm.zdv x0 x1 = some r) : Q0 23 [.agg [y, z].toArray, vI x1] W0 fun Wf v => ∃ A, v = .tuple [A, vB r.2].toArray ∧ OwS Wf LL [] [A] r.1 := by
 unfold Vm.zdv at hm
 obtain ⟨Z, aa, B, f, h⟩ := Repo.split F
 simp only [List.cons.injEq, and_true, true_and] at B
 obtain ⟨rfl, rfl⟩ := B
 refine zaI.of Tryz.func23 rfl rfl rfl rfl (sr (bo 2 rfl fun g1 H I i => ?_))
 have a := I.o
 refine Gv (.slice none 0 0) rfl (Nb rfl (Cw.seq ?_))
 obtain ⟨J, L, hm⟩ := zc1 hm
 refine Cw.join 6 14 [14] (fun l w => ∃ k x, CW.w x = w ∧ Le [] H x ∧ l = [vB k] ∧ J k = some r) ?_ ?_
 ·rintro _ _ σ ⟨k, x, rfl, C, rfl, hm⟩
  rw [L] at hm
  have d := a.n C
  refine cn hm (fun hm => ?_) fun hm => ?_
  ·refine sr (Gv (.slice none 0 0) rfl (Nb rfl ?_))
   cases hm
   exact Cw.ret (zmZ rfl rfl (Res.mk d ⟨.slice none 0 0, rfl, (zoh []).sub rfl rfl⟩))
  ·refine sk (sr (la (i.up C) (mi rfl (cr hm (fun _ => p80 (Repo.rd (K := [0]) x0.Commits x0.Heads (f.ul d) (h.ul d))) ?_))))
   rintro ae af ah hm N ⟨_, rfl, O⟩
   have P := O.sub (M := [0]) rfl
   have Q := d.n N
   refine cr hm (fun _ => p88 (k0 := 3) P) ?_
   rintro ai D aj hm S ⟨_, rfl, T⟩
   have U := Q.n S
   refine Gv D rfl (Nb rfl ?_)
   cases hm
   exact Cw.ret (zmZ rfl rfl (Res.mk U ⟨D, rfl, T.s.sub rfl rfl⟩))
 ·refine rg (la i (ca hm (fun _ => p22 (Repo.rd (K := [0]) x0.Commits x0.Heads (f.ul a) (h.ul a)) (G.ul a)) fun ak V hm e => ?_))
  have E := a.n e
  refine Lw.r rfl (R.not rfl) (mb rfl (bs hm (fun b hm => ?_) fun b hm => ?_))
  ·exact psk 4 b rfl (Pb b rfl (nl ((ag) ⟨true, V, rfl, e, rfl, hm⟩)))
  ·exact wak 4 b (la (i.up e) (mi rfl (ca hm (fun _ => p66 (Repo.rd (K := [0]) x0.Commits x0.Heads (f.ul E) (h.ul E))) fun W X hm Y => Lw.r rfl (R.not rfl) (Pb b rfl (nl ((ag) ⟨(!W), X, rfl, (e.j Y).w, rfl, hm⟩))))))
theorem p23 {x0 b d x1 k0 r} (f : Rd W K [b, d] x0) (h : Gl 0 W K) (hm : Vm.zdv x0 x1 = some r) : Q1 23 [.agg [b, d].toArray, vI x1] W [] fun W' v => ∃ a, v = .tuple [a, vB r.2].toArray ∧ Ow W' k0 [] [a] r.1 :=
 (c23 (f.view _) (h.view _) hm).ad (fk k0) fun _ _ ⟨a, e, i⟩ => ⟨a, e, i.back (zkb _)⟩
end Go.Sx
