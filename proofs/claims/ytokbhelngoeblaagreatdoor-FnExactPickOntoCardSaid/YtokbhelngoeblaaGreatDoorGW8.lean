/- Walks: each function answers as its model, printed by a program of ours. Conditions: the arguments read as they are given. -/
import Derived.Test.YtokbhelngoeblaaGreatDoorGTs
import Derived.Test.YtokbhelngoeblaaGreatDoorGM1
import Derived.Test.YtokbhelngoeblaaGreatDoorGW1
import Derived.Test.YtokbhelngoeblaaGreatDoorGW2
import Derived.Test.YtokbhelngoeblaaGreatDoorGW6
import Derived.Test.YtokbhelngoeblaaGreatDoorGW7
namespace Go.Sx
open Go Go.Proofs Go.Vm Rp
set_option linter.unusedVariables false
set_option linter.unusedSimpArgs false
variable {W W0 : CW} {K : List Nat}
theorem c116 {x0 z x1 B x2 C r} (L : Rd W0 [0] [z] x0) (h1 : Rd W0 [0] [B] x1) (h2 : Rd W0 [0] [C] x2) (bb : Gl 0 W0 [0]) (hm : Vm.zhb x0 x1 x2 = some r) : Q0 116 [z, B, C] W0 fun Wf v => ∃ u0 u1, v = .tuple [u0, u1].toArray ∧ OwS (α := List (Sh Vm.File)) Wf [31] [0] [u0] r.1 ∧ OwS Wf [32] [] [u1] r.2 := by
 unfold Vm.zhb at hm
 refine zaj.of Tryz.func116 rfl rfl rfl rfl (sr (Gv (.slice none 0 0) rfl (Nv (.slice none 0 0) rfl (ssr (mv z rfl (mv B rfl (mv C rfl (ca hm (fun _ => p115 L h1 h2 bb) fun z1 W3 hm l3 => ?_))))))))
 have N := l3.o
 refine Lw.r rfl (R.not rfl) (nl (cn hm (fun hm => ?_) fun hm => ?_))
 ·refine sr (Gv (.slice none 0 0) rfl (Nv (.slice none 0 0) rfl ?_))
  cases hm
  exact Cw.ret (zoI rfl rfl (Res.mk N ⟨.slice none 0 0, .slice none 0 0, rfl, (zul [0]).sub rfl rfl, (zm5 []).sub rfl rfl⟩))
 ·refine sk (sr (Nv (.slice none 0 0) rfl (sr (Nv (.slice none 0 0) rfl (ssr (mv z rfl (mv B rfl (mv C rfl (Lw.t rfl (T.bsS (α := Sh (List File)) (xs := [x0, x1, x2]) 2 [0] (W := W3) [z, B, C] (bsE [[z], [B], [C]] (zz8 L.oc (zz8 h1.oc (zz8 h2.oc zz7))) (Each.cons ((L.ul N).sh1) (Each.cons ((h1.ul N).sh1) (Each.cons ((h2.ul N).sh1) Each.nil)))) rfl) ?_)))))))))
  rintro v9 _ ⟨W9, rfl, l9, o9⟩
  have cj := N.n l9
  have ck : Rd (α := List (List Vm.File)) W9 [2, 0] [v9] ([x0, x1, x2] : List (List File)) := Ow.rdSh o9
  refine cr hm (fun _ => p161 (K := [0, 2]) (k0 := 3) (ck.sub (M := [0, 2]) rfl)) ?_
  rintro bg ej bh hm cl ⟨_, rfl, au⟩
  have cm := cj.n cl
  refine Lw.ln bg au.rd rfl (mi rfl (nl (Cw.block ?_)))
  obtain ⟨co, cp, hm⟩ := zaS hm
  refine Cw.loop 25 59 [8, 9, 11, 12, 13, 25] (fun m l w => ∃ (F : List Vm.File) (O : List Vm.Clash) (af : Int) (d h bi bj bk : Value) (i : CW), i.w = w ∧ Le [4, 5, 6, 7, 8, 9] bh i ∧ l = [d, h, bi, bj, bk, vI af] ∧ Ow (α := List (Sh Vm.File)) i 4 [0] [d] F ∧ Ow i 5 [] [h] O ∧ Vm.zdF x0 x1 x2 bg co m F O af = some r) _ ⟨([] : List File), ([] : List Clash), 0, .slice none 0 0, .slice none 0 0, undef, undef, undef, bh, rfl, Le.refl _ _, rfl, zAb 4 [0], owN 5 [], hm⟩ ?_
  rintro (_ | ek) _ _ σ ⟨F, O, af, d, h, bi, bj, bk, i, rfl, ah, rfl, av, aw, hm⟩
  ·cases hm
  unfold Vm.zdF at hm
  have ai := cm.t ah
  refine sr (Lw.lt rfl (nl (Cw.seq (cn hm (fun hm => ?_) fun hm => ?_))))
  ·refine sk ?_
   obtain ⟨cq, ct, hm⟩ := zaS hm
   refine Cw.join 27 58 [8, 9, 11, 12, 13] (fun l w => ∃ (aj : List Vm.File) (ak : List Vm.Clash) (am an ax ay az : Value) (G : CW), G.w = w ∧ Le [4, 5, 6, 7, 8, 9] i G ∧ l = [am, an, ax, ay, az] ∧ Ow (α := List (Sh Vm.File)) G 4 [0] [am] aj ∧ Ow G 5 [] [an] ak ∧ cq aj ak = some r) ?_ ?_
   ·rintro _ _ σ ⟨aj, ak, am, an, ax, ay, az, G, rfl, cu, rfl, cv, cw, hm⟩
    rw [ct] at hm
    exact rg (Lw.add rfl (mi rfl (nl ((agm) ⟨aj, ak, w64 (af + 1), am, an, ax, ay, az, G, rfl, (ah.j cu).w, rfl, cv, cw, hm⟩))))
   ·refine Cw.block (sr ?_)
    obtain ⟨b, bl, hm⟩ := ob hm
    refine Lw.r rfl (R.ix (α := Str) (au.up ah).rd bl rfl rfl rfl) (Lw.r rfl (R.ld rfl rfl ((au.up ah).rd.at_ bl).str) (Ns rfl (sr (mv z rfl (ms rfl (cr hm (fun _ => p163 (k0 := 6) (L.ul ai)) ?_))))))
    rintro P _ el hm Q ⟨cx, rfl, cy⟩
    have bm := ai.n Q
    refine mv B rfl (ms rfl (cr hm (fun _ => p163 (k0 := 7) (h1.ul bm)) ?_))
    rintro S _ em hm H ⟨cz, rfl, bn⟩
    have c0 := bm.n H
    refine mv C rfl (ms rfl (cr hm (fun _ => p163 (k0 := 8) (h2.ul c0)) ?_))
    rintro U _ en hm D ⟨c1, rfl, bp⟩
    have bq := (cy.up H).up D
    refine cr hm (fun _ => p162 (K := [6, 7, 8]) (x0 := (Vm.has.mk P.text P.file)) (x1 := (Vm.has.mk S.text S.file)) (x2 := (Vm.has.mk U.text U.file)) ((has.rd (K := [6]) P.text P.file bq.rd).sub (M := [6, 7, 8]) rfl) ((has.rd (K := [7]) S.text S.file (bn.up D).rd).sub (M := [6, 7, 8]) rfl) ((has.rd (K := [8]) U.text U.file bp.rd).sub (M := [6, 7, 8]) rfl)) ?_
    rintro a _ eo hm E ⟨e, rfl, c2⟩
    have ao := c2.sub (M := [0, 6, 7, 8]) rfl
    refine mv (.tuple [.agg [e, vB a.1.file].toArray, vI a.2].toArray) rfl (Lw.r rfl (R.ext (vs := [.agg [e, vB a.1.file].toArray, vI a.2]) (v := .agg [e, vB a.1.file].toArray) rfl rfl) (Lw.r rfl (R.ext (vs := [.agg [e, vB a.1.file].toArray, vI a.2]) (v := vI a.2) rfl rfl) (al 9 [.slice none 0 0, vB false] fun br ep k c3 => sta c3 (zaa ao.oc (zaa rfl zaR)) fun bu y bv => ?_)))
    have bw := (((((aw.up Q).up H).up D).up E).up k).up y
    refine Ni rfl ?_
    obtain ⟨c4, c5, hm⟩ := zaS hm
    refine Cw.join 42 49 [9] (fun l w => ∃ V X Y, CW.w Y = w ∧ Le [5] bu Y ∧ l = [X] ∧ Ow Y 5 [] [X] V ∧ c4 V = some r) ?_ ?_
    ·rintro _ _ σ ⟨V, X, Y, rfl, f, rfl, bz, hm⟩
     rw [c5] at hm
     have b0 := ((((((av.up Q).up H).up D).up E).up k).up y).up f
     refine sr (fl (bv.up f) rfl (nl (cn hm (fun hm => ?_) fun hm => ?_)))
     ·refine rg (mv d rfl (ms rfl (fl (bv.up f) rfl (Lw.r rfl (R.bd (zs := [vS ([] : Str), .slice none 0 0]) (cs := [vS b, e]) [(0, vS b), (1, e)] rfl rfl rfl (zaD rfl rfl (zaD ao.oc rfl zdN))) (Lw.t rfl (T.bs 10 [.agg [vS b, e].toArray] (cs := [vS b, e]) rfl rfl (bsA rfl)) ?_)))))
      rintro _ _ ⟨er, c6, rfl, rfl, A, c7⟩
      have c8 := ao.up ((k.sub (M := [5, 9]) rfl).trans ((y.sub (M := [5, 9]) rfl).trans ((f.sub (M := [5, 9]) rfl).trans (A.sub (M := [5, 9]) rfl)))) rfl
      have c9 : Ow (α := List (Sh Vm.File)) c6 4 [0, 6, 7, 8] [d] F := (b0.up A).sub rfl
      obtain ⟨ap, da, hm⟩ := ob hm
      refine Lw.t rfl (T.app1S (α := Sh Vm.File) (K' := [0, 6, 7, 8]) c9 c7 (File.rd (K := [0, 6, 7, 8]) b a.1.text c8).sh1 rfl rfl da) ?_
      rintro Z _ ⟨es, rfl, I, db⟩
      refine Nv Z rfl ?_
      have dc := ao.up ((k.sub (M := [4, 5, 9]) rfl).trans ((y.sub (M := [4, 5, 9]) rfl).trans ((f.sub (M := [4, 5, 9]) rfl).trans ((A.sub (M := [4, 5, 9]) rfl).trans (I.sub (M := [4, 5, 9]) rfl))))) rfl
      obtain ⟨a0, dd, aq, a1⟩ := zp4 _ 6
      have de : Rd a0 [0, 7, 8] [e] a.1.text := by rw [a1]; exact (dc.dye 6).sub (M := [0, 7, 8]) rfl
      have df : Ow (α := List (Sh Vm.File)) a0 4 [0, 7, 8] [Z] ap := by rw [a1]; exact (db.dyeA 6 rfl).sub rfl
      have et : Rd (α := List Str) a0 [0] [cx] P.text := by rw [a1]; exact (((((((bq.up E).up k).up y).up f).up A).up I).rd.dye 6).sub (M := [0]) rfl
      obtain ⟨a2, dg, a3, a5⟩ := zp4 _ 7
      have dh : Rd a2 [0, 8] [e] a.1.text := by rw [a5]; exact (de.dye 7).sub (M := [0, 8]) rfl
      have di : Ow (α := List (Sh Vm.File)) a2 4 [0, 8] [Z] ap := by rw [a5]; exact (df.dyeA 7 rfl).sub rfl
      have eu : Rd (α := List Str) a2 [0] [cz] S.text := by rw [a5]; exact (((((((((bn.up D).up E).up k).up y).up f).up A).up I).up aq).rd.dye 7).sub (M := [0]) rfl
      obtain ⟨ar, dj, b1, a6⟩ := zp4 _ 8
      have ew : Rd ar [0] [e] a.1.text := by rw [a6]; exact (dh.dye 8).sub (M := [0]) rfl
      have dk : Ow (α := List (Sh Vm.File)) ar 4 [0] [Z] ap := by rw [a6]; exact (di.dyeA 8 rfl).sub rfl
      have ex : Rd (α := List Str) ar [0] [c1] U.text := by rw [a6]; exact (((((((((bp.up E).up k).up y).up f).up A).up I).up aq).up a3).rd.dye 8).sub (M := [0]) rfl
      exact (ag) ⟨ap, V, Z, X, vS b, ptr (bx br), vI a.2, ar, dj.trans (dg.trans (dd)), (((((((((((Q.j H).j D).j E).j k).j y).j f).j A).j I).j aq).j a3).j b1).w, rfl, dk, (((((bz.up A).up I).up aq).up a3).up b1), hm⟩
     ·exact sk ((ag) ⟨F, V, d, X, vS b, ptr (bx br), vI a.2, Y, rfl, ((((((Q.j H).j D).j E).j k).j y).j f).w, rfl, b0, bz, hm⟩)
    ·refine sr (mi rfl (Lw.ne rfl (nl (cn hm (fun hm => ?_) fun hm => ?_))))
     ·refine rg (mv h rfl (ms rfl (mi rfl (Lw.r rfl (R.bd (zs := [vS ([] : Str), vI 0]) (cs := [vS b, vI a.2]) [(0, vS b), (1, vI a.2)] rfl rfl rfl (zaD rfl rfl (zaD rfl rfl zdN))) (Lw.t rfl (T.bs 11 [.agg [vS b, vI a.2].toArray] (cs := [vS b, vI a.2]) rfl rfl (bsA rfl)) ?_)))))
      rintro _ _ ⟨ey, ez, rfl, rfl, b2, dl⟩
      obtain ⟨dm, dn, hm⟩ := ob hm
      refine Lw.t rfl (T.app1S (α := Clash) (K' := []) (bw.up b2) dl (Clash.rd (K := []) b a.2) rfl rfl dn) ?_
      rintro b3 _ ⟨dp, rfl, dq, dr⟩
      exact Nv b3 rfl ((ag) ⟨dm, b3, dp, rfl, (b2.j dq).w, rfl, dr, hm⟩)
     ·exact sk ((ag) ⟨O, h, bu, rfl, Le.refl _ _, rfl, bw, hm⟩)
  ·refine Cw.exit ?_
   rw [cp] at hm
   refine Cw.seq ?_
   obtain ⟨ds, dt, hm⟩ := zaS hm
   refine Cw.join 60 67 [67] (fun l w => ∃ a7 a8, CW.w a8 = w ∧ Le [] i a8 ∧ l = [vB a7] ∧ ds a7 = some r) ?_ ?_
   ·rintro _ _ σ ⟨a7, a8, rfl, a9, rfl, hm⟩
    rw [dt] at hm
    have ba := ai.n a9
    refine cn hm (fun hm => ?_) fun hm => ?_
    ·refine sr (mv z rfl (cr hm (fun _ => p88 (k0 := 12) (L.ul ba)) ?_))
     rintro e0 b4 e1 hm du ⟨_, rfl, dv⟩
     have dw := ba.n du
     refine Lw.r rfl (R.bd (zs := [vS ([] : Str), vI 0]) (cs := [vS ([] : Str), vI 4]) [(1, vI 4)] rfl rfl rfl (zaD rfl rfl zdN)) (Lw.t rfl (T.bsO (α := Clash) (J := []) (xs := [Vm.Clash.mk ([] : Str) 4]) 13 [.agg [vS ([] : Str), vI 4].toArray] (bsL [[vS ([] : Str), vI 4]] (zAX rfl zz7) (OwL.cons (x := (Vm.Clash.mk ([] : Str) 4)) (OwS.atm (K := []) (Clash.rd (K := []) ([] : Str) 4)) OwL.nil)) rfl) ?_)
     rintro b5 _ ⟨e2, rfl, b6, dx⟩
     have dy := dw.n b6
     refine Gv b4 rfl (Nv b5 rfl ?_)
     obtain ⟨e3, dz, b7, d0⟩ := (dv.up b6).toSh
     have d1 := dy.t b7
     obtain ⟨e4, d2, b8, d3⟩ := d0.dyeO 31
     have d4 := d1.t b8
     obtain ⟨e5, d5, b9, d6⟩ := ((dx.up b7).up b8).dyeO 32
     have d7 := d4.t b9
     cases hm
     rw [← d5.trans (d2.trans (dz))]
     exact Cw.ret (zoI rfl rfl (Res.mk d7 ⟨b4, b5, rfl, (d3.up b9).s, d6.s⟩))
    ·refine sk (sr (mv d rfl (mv h rfl (Gv d rfl (Nv h rfl ?_)))))
     obtain ⟨e6, d8, cb, d9⟩ := (av.up a9).dyeO 31
     have ea := ba.t cb
     obtain ⟨e7, eb, cc, ec⟩ := ((aw.up a9).up cb).dyeO 32
     have ed := ea.t cc
     cases hm
     rw [← eb.trans (d8)]
     exact Cw.ret (zoI rfl rfl (Res.mk ed ⟨d, h, rfl, (d9.up cc).s, ec.s⟩))
   ·refine rg (mv h rfl (Lw.ln O aw.rd rfl (Lw.eq rfl (mb rfl (bs hm (fun aa hm => ?_) fun aa hm => ?_)))))
    ·refine wak 3 aa (mv d rfl ?_)
     have ee : Rd (α := List Vm.File) i [4, 0] [d] F := Ow.rdSh av
     exact ca hm (fun _ => p85 (K := [0, 4]) (ee.sub (M := [0, 4]) rfl) ((bb.ul ai).sub (M := [0, 4]) rfl)) fun ef eg hm eh => Lw.r rfl (R.not rfl) (Pb aa rfl (nl ((ag) ⟨(!ef), eg, rfl, eh, rfl, hm⟩)))
    ·exact psk 3 aa rfl (Pb aa rfl (nl ((ag) ⟨false, i, rfl, Le.refl _ _, rfl, hm⟩)))
theorem p116 {x0 d x1 f x2 h k0 k1 r} (i : Rd W K [d] x0) (k : Rd W K [f] x1) (x : Rd W K [h] x2) (y : Gl 0 W K) (hm : Vm.zhb x0 x1 x2 = some r) : Q1 116 [d, f, h] W [] fun W' v => ∃ a b, v = .tuple [a, b].toArray ∧ Ow (α := List (Sh Vm.File)) W' k0 (0 :: K) [a] r.1 ∧ Ow W' k1 [] [b] r.2 :=
 zaj.adJ (J := []) (fun c => bif Nat.beq c 0 then 0 else bif Nat.beq c 31 then k0 else bif Nat.beq c 32 then k1 else 0) (c116 (i.view _) (k.view _) (x.view _) (y.view _) hm) fun _ _ ⟨a, b, e, z, A⟩ => ⟨a, b, e, z.one1.backNS rfl rfl, A.one1.backN rfl⟩
theorem c47 {x0 e x1 f x2 h r} (i : Rd W0 [0] [e] x0) (k : Rd W0 [0] [f] x1) (x : Rd W0 [0] [h] x2) (y : Gl 0 W0 [0]) (hm : Vm.zei x0 x1 x2 = some r) : Q0 47 [e, f, h] W0 fun Wf v => ∃ z, v = .tuple [z, vB r.2].toArray ∧ OwS (α := List (Sh Vm.File)) Wf LL [0] [z] r.1 := by
 unfold Vm.zei at hm
 refine zaj.of Tryz.func47 rfl rfl rfl rfl (sr (Gv (.slice none 0 0) rfl (Nb rfl (ssr (mv e rfl (mv f rfl (mv h rfl (ca hm (fun _ => p115 i k x y) fun I J hm C => ?_))))))))
 have b := C.o
 refine Lw.r rfl (R.not rfl) (nl (cn hm (fun hm => ?_) fun hm => ?_))
 ·refine sr (Gv (.slice none 0 0) rfl (Nb rfl ?_))
  cases hm
  exact Cw.ret (zoI rfl rfl (Res.mk b ⟨.slice none 0 0, rfl, (zul [0]).sub rfl rfl⟩))
 ·refine sk (sr (mv e rfl (mv f rfl (mv h rfl (cr hm (fun _ => p116 (k0 := 2) (k1 := 3) (i.ul b) (k.ul b) (x.ul b) (y.ul b)) ?_)))))
  rintro A _ D hm E ⟨a, d, rfl, F, G⟩
  have H : Ow (α := List (Sh Vm.File)) D 2 [0] [a] A.1 := F.sub rfl
  have B := b.n E
  refine mv (.tuple [a, d].toArray) rfl (Lw.r rfl (R.ext (vs := [a, d]) (v := a) rfl rfl) (Lw.r rfl (R.ext (vs := [a, d]) (v := d) rfl rfl) (Gv a rfl (Nv d rfl (ssr (mv d rfl (Lw.ln A.2 G.rd rfl (Lw.gt rfl (nl (cn hm (fun hm => ?_) fun hm => ?_))))))))))
  ·refine sr (Gv (.slice none 0 0) rfl (Nb rfl ?_))
   cases hm
   exact Cw.ret (zoI rfl rfl (Res.mk B ⟨.slice none 0 0, rfl, (zul [0]).sub rfl rfl⟩))
  ·refine sk (sr (mv a rfl (Gv a rfl (Nb rfl ?_))))
   cases hm
   exact Cw.ret (zoI rfl rfl (Res.mk B ⟨a, rfl, H.s.sub rfl rfl⟩))
theorem p47 {x0 b x1 d x2 f k0 r} (h : Rd W K [b] x0) (i : Rd W K [d] x1) (k : Rd W K [f] x2) (x : Gl 0 W K) (hm : Vm.zei x0 x1 x2 = some r) : Q1 47 [b, d, f] W [] fun W' v => ∃ a, v = .tuple [a, vB r.2].toArray ∧ Ow (α := List (Sh Vm.File)) W' k0 (0 :: K) [a] r.1 :=
 (c47 (h.view _) (i.view _) (k.view _) (x.view _) hm).ad (fk k0) fun _ _ ⟨a, e, y⟩ => ⟨a, e, y.backS (zfR _) rfl⟩
theorem c157 {x0 D E x1 x2 x3 y x4 b r} (U : Ow W0 2 [] [D] x0.Commits) (V : Ow W0 3 [] [E] x0.Heads) (W : Rd W0 [0] [y] x3) (X : Ow W0 4 [] [b] x4) (hm : Vm.zbM x0 x1 x2 x3 x4 = some r) : Q0 157 [.agg [D, E].toArray, vS x1, vS x2, y, b] W0 fun Wf v => ∃ F G, v = .agg [F, G].toArray ∧ OwS Wf [31] [] [F] r.Commits ∧ OwS Wf [32] [] [G] r.Heads := by
 unfold Vm.zbM at hm
 refine zaj.of Tryz.func157 rfl rfl rfl rfl (sr (bo 5 rfl fun g1 W1 i Y => ?_))
 have Z := i.o
 refine al 6 [.slice none 0 0, .slice none 0 0] fun g6 W6 f b6 => ?_
 have a7 := Z.n f
 refine nl (Cw.seq (Cw.draw [] [(0, 0), (1, 1), (2, 0), (3, 0), (4, 0), (5, 2), (6, 0), (7, 2), (8, 3), (9, 0), (10, 3)] mixed (by kernel_rfl) fun a9 e => ?_))
 have H := a7.n e
 have I := (Y.up f).up e
 refine Dfl I rfl rfl rfl (Dv b rfl (Ds rfl (Dv y rfl ?_)))
 obtain ⟨ae, af, hm⟩ := ob hm
 refine Mw.t rfl rfl (T.call rfl (p88 (k0 := 7) (W.ul H) af)) ?_
 rintro k _ ⟨ba, rfl, d, ⟨_, rfl, L⟩⟩
 have ah := H.n d
 have M := (((X.up i).up f).up e).up d
 refine m0 d fun ai => Mw.p rfl rfl (fun _ => R.bd (zs := [.slice none 0 0, vS ([] : Str), .slice none 0 0]) (cs := [b, vS x2, k]) [(0, b), (1, vS x2), (2, k)] rfl rfl rfl (zaD M.oc rfl (zaD rfl rfl (zaD L.oc rfl zdN)))) (Mw.t rfl rfl (T.bs 8 [.agg [b, vS x2, k].toArray] (cs := [b, vS x2, k]) rfl rfl (bsA rfl)) ?_)
 rintro _ _ ⟨bb, bc, rfl, rfl, a, aj⟩
 have ak := ah.n a
 refine mc ai a fun be => ?_
 obtain ⟨N, am, hm⟩ := ob hm
 refine Mw.l rfl rfl (T.app1 (α := Commit) (J := [4, 7]) (K' := []) (((((U.up i).up f).up e).up d).up a) aj (Commit.own x4 x2 ae (M.up a).s (L.up a).s) rfl rfl am) ?_
 rintro an _ ⟨bg, rfl, x, z⟩
 have ao := ak.t x
 refine Df rfl (Mw.lu rfl (T.st (j := 0) (v := an) (((I.up d).up a).up x) rfl rfl z.oc rfl rfl) ?_)
 rintro _ _ ⟨bh, rfl, h, O⟩
 have ap := ao.t h
 refine Mw.nil (sr (la O (ms rfl (fl O rfl (Lw.ln N (z.up h).rd rfl (Lw.sub rfl (cr hm (fun _ => p68 (K := [0]) (k0 := 9) (k1 := 10) (c0 := 2) (c1 := 3) (x0 := (Vm.Repo.mk N x0.Heads)) (z.up h) (((((((V.up i).up f).up e).up d).up a).up x).up h) rfl) ?_)))))))
 rintro bi _ bj hm P ⟨aq, ar, rfl, Q, S⟩
 have au := ap.t P
 refine sta ((((((b6.up e).up d).up a).up x).up h).up P) (zaa Q.oc (zaa S.oc zaR)) fun bk A av => ?_
 have aw := au.t A
 refine nl ?_
 obtain ⟨bl, ax, B, ay⟩ := (Q.up A).dyeO 31
 have az := aw.t B
 obtain ⟨bm, a0, C, a1⟩ := ((S.up A).up B).dyeO 32
 have a3 := az.t C
 cases hm
 rw [← a0.trans (ax)]
 exact Cw.ret (zlH rfl ((av.up B).up C) (Res.mk a3 ⟨aq, ar, rfl, (ay.up C).s, a1.s⟩))
theorem p157 {x0 d f x1 x2 x3 h x4 i k0 k1 c0 c1 c2 r} (k : Ow W c0 [] [d] x0.Commits) (x : Ow W c1 [] [f] x0.Heads) (y : Rd W K [h] x3) (z : Ow W c2 [] [i] x4) (hJ : okJ K [c0, c1, c2] = true) (hm : Vm.zbM x0 x1 x2 x3 x4 = some r) : Q1 157 [.agg [d, f].toArray, vS x1, vS x2, h, i] W [c0, c1, c2] fun W' v => ∃ a b, v = .agg [a, b].toArray ∧ Ow W' k0 [] [a] r.Commits ∧ Ow W' k1 [] [b] r.Heads :=
 zaj.adJ (J := [c0, c1, c2]) (fun c => bif Nat.beq c 0 then 0 else bif Nat.beq c 2 then c0 else bif Nat.beq c 3 then c1 else bif Nat.beq c 4 then c2 else bif Nat.beq c 31 then k0 else bif Nat.beq c 32 then k1 else 0) (c157 (k.viewJ 0 hJ) (x.viewJ 1 hJ) (y.view _) (z.viewJ 2 hJ) hm) fun _ _ ⟨a, b, e, A, B⟩ => ⟨a, b, e, A.one1.backN rfl, B.one1.backN rfl⟩
theorem c156 {x0 D E x1 e f r} (Q : Rd W0 [0] [D, E] x0) (S : Ow W0 2 [] [e] x1.Commits) (T : Ow W0 3 [] [f] x1.Heads) (U : Gl 0 W0 [0]) (hm : Vm.zcb x0 x1 = some r) : Q0 156 [.agg [D, E].toArray, .agg [e, f].toArray] W0 fun Wf v => ∃ F G, v = .tuple [.agg [F, G].toArray, vB r.2].toArray ∧ OwS Wf [31] [] [F] r.1.Commits ∧ OwS Wf [32] [] [G] r.1.Heads := by
 unfold Vm.zcb at hm
 obtain ⟨az, a0, H, V, W⟩ := Repo.split Q
 simp only [List.cons.injEq, and_true, true_and] at H
 obtain ⟨rfl, rfl⟩ := H
 refine zaj.of Tryz.func156 rfl rfl rfl rfl (sr (bo 4 rfl fun g1 W1 h X => ?_))
 have Y := h.o
 refine bo 5 rfl fun g5 W5 b I => ?_
 have Z := Y.n b
 refine al 6 [.slice none 0 0, .slice none 0 0] fun a7 a8 l10 J => ?_
 have L := Z.n l10
 have i := ((S.up h).up b).up l10
 have k := ((T.up h).up b).up l10
 refine Nb rfl (ssr (la (I.up l10) (ca hm (fun _ => p22 (K := [0, 2, 3]) (x0 := (Vm.Repo.mk x1.Commits x1.Heads)) ((Repo.rd (K := [2, 3]) x1.Commits x1.Heads (i.rd.sub (M := [2, 3]) rfl) (k.rd.sub (M := [2, 3]) rfl)).sub (M := [0, 2, 3]) rfl) ((U.ul L).sub (M := [0, 2, 3]) rfl)) fun a9 ba hm a => ?_)))
 have d := L.n a
 refine Lw.r rfl (R.not rfl) (nl (cn hm (fun hm => ?_) fun hm => ?_))
 ·refine sr (la (((X.up b).up l10).up a) (cr hm (fun _ => p67 (k0 := 7) (k1 := 8) (Repo.rd (K := [0]) x0.Commits x0.Heads (V.ul d) (W.ul d))) ?_))
  rintro bb _ bc hm N ⟨aa, ac, rfl, O, P⟩
  have ae := d.n N
  refine sta ((J.up a).up N) (zaa O.oc (zaa P.oc zaR)) fun be x af => ?_
  have ah := ae.t x
  refine Nb rfl ?_
  obtain ⟨bg, ai, y, aj⟩ := (O.up x).dyeO 31
  have ak := ah.t y
  obtain ⟨bh, am, z, an⟩ := ((P.up x).up y).dyeO 32
  have ao := ak.t z
  cases hm
  rw [← am.trans (ai)]
  exact Cw.ret (zjH rfl ((af.up y).up z) rfl (Res.mk ao ⟨aa, ac, rfl, (aj.up z).s, an.s⟩))
 ·refine sk (sr (la ((I.up l10).up a) (sta (J.up a) (zaa (i.up a).oc (zaa (k.up a).oc zaR)) fun bi A ap => ?_)))
  have aq := d.t A
  refine Nb rfl ?_
  obtain ⟨bj, ar, B, au⟩ := ((i.up a).up A).dyeO 31
  have av := aq.t B
  obtain ⟨bk, aw, C, ax⟩ := (((k.up a).up A).up B).dyeO 32
  have ay := av.t C
  cases hm
  rw [← aw.trans (ar)]
  exact Cw.ret (zjH rfl ((ap.up B).up C) rfl (Res.mk ay ⟨e, f, rfl, (au.up C).s, ax.s⟩))
theorem p156 {x0 d f x1 h i k0 k1 c0 c1 r} (k : Rd W K [d, f] x0) (x : Ow W c0 [] [h] x1.Commits) (y : Ow W c1 [] [i] x1.Heads) (z : Gl 0 W K) (hJ : okJ K [c0, c1] = true) (hm : Vm.zcb x0 x1 = some r) : Q1 156 [.agg [d, f].toArray, .agg [h, i].toArray] W [c0, c1] fun W' v => ∃ a b, v = .tuple [.agg [a, b].toArray, vB r.2].toArray ∧ Ow W' k0 [] [a] r.1.Commits ∧ Ow W' k1 [] [b] r.1.Heads :=
 zaj.adJ (J := [c0, c1]) (fun c => bif Nat.beq c 0 then 0 else bif Nat.beq c 2 then c0 else bif Nat.beq c 3 then c1 else bif Nat.beq c 31 then k0 else bif Nat.beq c 32 then k1 else 0) (c156 (k.view _) (x.viewJ 0 hJ) (y.viewJ 1 hJ) (z.view _) hm) fun _ _ ⟨a, b, e, A, B⟩ => ⟨a, b, e, A.one1.backN rfl, B.one1.backN rfl⟩
theorem c129 {x0 e f x1 x2 x3 O x4 P r} (h0 : Rd W0 [0] [e, f] x0) (h3 : Rd W0 [0] [O] x3) (h4 : Rd W0 [0] [P] x4) (bn : Gl 0 W0 [0]) (hm : Vm.zbj x0 x1 x2 x3 x4 = some r) : Q0 129 [.agg [e, f].toArray, vS x1, vS x2, O, P] W0 fun Wf v => ∃ bp bq, v = .tuple [.agg [bp, bq].toArray, vI r.2].toArray ∧ OwS Wf [31] [] [bp] r.1.Commits ∧ OwS Wf [32] [] [bq] r.1.Heads := by
 unfold Vm.zbj at hm
 obtain ⟨fb, fc, br, D, E⟩ := Repo.split h0
 simp only [List.cons.injEq, and_true, true_and] at br
 obtain ⟨rfl, rfl⟩ := br
 refine zaj.of Tryz.func129 rfl rfl rfl rfl (sr (bo 2 rfl fun g1 W1 l1 b1 => ?_))
 have a2 := l1.o
 refine al 3 [.slice none 0 0, .slice none 0 0] fun g3 W3 Q b3 => ?_
 have S := a2.n Q
 refine Ni rfl (sr (la (b1.up Q) (ms rfl (ca hm (fun _ => p65 (Repo.rd (K := [0]) x0.Commits x0.Heads (D.ul S) (E.ul S))) fun k fh hm l10 => ?_))))
 have U := S.n l10
 have bv := (b1.up Q).up l10
 refine Ni rfl (sr (mv O rfl (la bv (mi rfl (cr hm (fun _ => p80 (Repo.rd (K := [0]) x0.Commits x0.Heads (D.ul U) (E.ul U))) ?_)))))
 rintro fi fj fm hm V ⟨_, rfl, cj⟩
 have ck := cj.sub (M := [0]) rfl
 have H := U.n V
 refine mv P rfl (cr hm (fun _ => p47 (k0 := 4) (h3.ul H) ck (h4.ul H) (bn.ul H)) ?_)
 rintro C _ cl hm Y ⟨i, rfl, cm⟩
 have co : Ow (α := List (Sh Vm.File)) cl 4 [0] [i] C.1 := cm.sub rfl
 have I := H.n Y
 have Z := (bv.up V).up Y
 have bw := ((b3.up l10).up V).up Y
 refine mv (.tuple [i, vB C.2].toArray) rfl (Lw.r rfl (R.ext (vs := [i, vB C.2]) (v := i) rfl rfl) (Lw.r rfl (R.ext (vs := [i, vB C.2]) (v := vB C.2) rfl rfl) (Gv i rfl (Nb rfl (ssr (mb rfl (Lw.r rfl (R.not rfl) (nl (cn hm (fun hm => ?_) fun hm => ?_)))))))))
 ·refine sr (la Z (cr hm (fun _ => p67 (k0 := 5) (k1 := 6) (Repo.rd (K := [0]) x0.Commits x0.Heads (D.ul I) (E.ul I))) ?_))
  rintro fn _ fo hm bz ⟨cp, cq, rfl, b0, b2⟩
  have ct := I.n bz
  refine sta (bw.up bz) (zaa b0.oc (zaa b2.oc zaR)) fun fp aa cu => ?_
  have cv := ct.t aa
  refine Ni rfl ?_
  obtain ⟨fq, cw, ac, cx⟩ := (b0.up aa).dyeO 31
  have cy := cv.t ac
  obtain ⟨fr, cz, ae, c3⟩ := ((b2.up aa).up ac).dyeO 32
  have c4 := cy.t ae
  cases hm
  rw [← cz.trans (cw)]
  exact Cw.ret (zjH rfl ((cu.up ac).up ae) rfl (Res.mk c4 ⟨cp, cq, rfl, (cx.up ae).s, c3.s⟩))
 ·refine sk (Cw.seq ?_)
  obtain ⟨y, c5, hm⟩ := ob hm
  obtain ⟨z, c6, hm⟩ := ob hm
  obtain ⟨a, c7, hm⟩ := ob hm
  refine Cw.par [[], [], [1], [], [], [], [], [6], [1, 2, 3, 4, 5, 6, 7], [0, 1, 2, 3, 4, 5, 6, 7, 8], [0, 1, 2, 3, 4, 5, 6, 7, 8, 9], [0, 1, 2, 3, 4, 5, 6, 7, 8, 9, 10], [0, 1, 2, 3, 4, 5, 6, 7, 8, 9, 10], [], [0, 1, 2, 3, 4, 5, 6, 7, 8, 9, 10, 11, 13], [0, 1, 2, 3, 4, 5, 6, 7, 8, 9, 10, 11, 12, 13, 14]] [[], [], [1], [], [], [], [], [6], [2, 3, 4, 5, 7], [0, 8], [9], [9, 10], [9, 10], [], [9, 11, 13], [12]] [[], [], [], [], [], [], [], [], [7, 8, 9], [10, 11], [], [], [], [], [14], []] [[0], [1], [2], [3], [4], [5], [6], [7], [8], [9], [9, 10], [9, 11], [12], [13], [9, 13], [15]] [[], [], [7, 8], [], [], [], [], [9], [10, 11], [12, 13], [], [], [], [14], [14], []] [0, 1, 3, 4, 5, 6, 9, 10, 11, 12, 14, 15] [7, 8, 9, 10, 11, 14] [fun vs W => (vs 0) = .agg [e, f].toArray, fun vs W => (vs 1) = .agg [e, f].toArray, fun vs W => (vs 2) = .agg [(zaq (vs 2) 0), (zaq (vs 2) 1)].toArray ∧ Ow W 7 [] [(zaq (vs 2) 0)] y.Commits ∧ Ow W 8 [] [(zaq (vs 2) 1)] y.Heads, fun vs W => (vs 3) = vS x1, fun vs W => (vs 4) = vS x2, fun vs W => (vs 5) = i, fun vs W => (vs 6) = vI k, fun vs W => Ow W 9 [] [(vs 7)] ([k] : List Int), fun vs W => (vs 8) = .agg [(zaq (vs 8) 0), (zaq (vs 8) 1)].toArray ∧ Ow W 10 [] [(zaq (vs 8) 0)] z.Commits ∧ Ow W 11 [] [(zaq (vs 8) 1)] z.Heads, fun vs W => (vs 9) = .tuple [.agg [(zaq (zaq (vs 9) 0) 0), (zaq (zaq (vs 9) 0) 1)].toArray, vB a.2].toArray ∧ Ow W 12 [] [(zaq (zaq (vs 9) 0) 0)] a.1.Commits ∧ Ow W 13 [] [(zaq (zaq (vs 9) 0) 1)] a.1.Heads, fun vs W => (vs 10) = .tuple [.agg [(zaq (zaq (vs 9) 0) 0), (zaq (zaq (vs 9) 0) 1)].toArray, vB a.2].toArray, fun vs W => (vs 11) = .agg [(zaq (zaq (vs 9) 0) 0), (zaq (zaq (vs 9) 0) 1)].toArray, fun vs W => (vs 12) = vB a.2, fun vs W => (vs 13) = ptr (bx (pg (vs 13))) ∧ Bx W 14 (pg (vs 13)) [.slice none 0 0, .slice none 0 0], fun vs W => (vs 13) = ptr (bx (pg (vs 13))) ∧ Bx W 14 (pg (vs 13)) [(zaq (zaq (vs 9) 0) 0), (zaq (zaq (vs 9) 0) 1)], fun vs W => (vs 15) = vB a.2] [] mixed (by kernel_rfl) rfl zq4.nil ?_
  intro fs F
  have af := I.n F
  refine ⟨(zaN.cons ?_ (zaN.cons ?_ (zaN.cons ?_ (zaN.cons ?_ (zaN.cons ?_ (zaN.cons ?_ (zaN.cons ?_ (zaN.cons ?_ (zaN.cons ?_ (zaN.cons ?_ (zaN.cons ?_ (zaN.cons ?_ (zaN.cons ?_ (zaN.cons ?_ (zaN.cons ?_ (zaN.cons ?_ zaN.nil)))))))))))))))), (zdd.cons (fun vs vs' W W' _ hv l hd h => by (show (vs' 0) = .agg [e, f].toArray); rw [hv 0 (zat rfl)]; exact h) (zdd.cons (fun vs vs' W W' _ hv l hd h => by (show (vs' 1) = .agg [e, f].toArray); rw [hv 1 (zat rfl)]; exact h) (zdd.cons (fun vs vs' W W' _ hv l hd h => by (show (vs' 2) = .agg [(zaq (vs' 2) 0), (zaq (vs' 2) 1)].toArray ∧ Ow W' 7 [] [(zaq (vs' 2) 0)] y.Commits ∧ Ow W' 8 [] [(zaq (vs' 2) 1)] y.Heads); rw [hv 2 (zat rfl)]; exact ⟨h.1, h.2.1.upv l (zbJ hd (c := 7) rfl), h.2.2.upv l (zbJ hd (c := 8) rfl)⟩) (zdd.cons (fun vs vs' W W' _ hv l hd h => by (show (vs' 3) = vS x1); rw [hv 3 (zat rfl)]; exact h) (zdd.cons (fun vs vs' W W' _ hv l hd h => by (show (vs' 4) = vS x2); rw [hv 4 (zat rfl)]; exact h) (zdd.cons (fun vs vs' W W' _ hv l hd h => by (show (vs' 5) = i); rw [hv 5 (zat rfl)]; exact h) (zdd.cons (fun vs vs' W W' _ hv l hd h => by (show (vs' 6) = vI k); rw [hv 6 (zat rfl)]; exact h) (zdd.cons (fun vs vs' W W' _ hv l hd h => by (show Ow W' 9 [] [(vs' 7)] ([k] : List Int)); rw [hv 7 (zat rfl)]; exact h.upv l (zbJ hd (c := 9) rfl)) (zdd.cons (fun vs vs' W W' _ hv l hd h => by (show (vs' 8) = .agg [(zaq (vs' 8) 0), (zaq (vs' 8) 1)].toArray ∧ Ow W' 10 [] [(zaq (vs' 8) 0)] z.Commits ∧ Ow W' 11 [] [(zaq (vs' 8) 1)] z.Heads); rw [hv 8 (zat rfl)]; exact ⟨h.1, h.2.1.upv l (zbJ hd (c := 10) rfl), h.2.2.upv l (zbJ hd (c := 11) rfl)⟩) (zdd.cons (fun vs vs' W W' _ hv l hd h => by (show (vs' 9) = .tuple [.agg [(zaq (zaq (vs' 9) 0) 0), (zaq (zaq (vs' 9) 0) 1)].toArray, vB a.2].toArray ∧ Ow W' 12 [] [(zaq (zaq (vs' 9) 0) 0)] a.1.Commits ∧ Ow W' 13 [] [(zaq (zaq (vs' 9) 0) 1)] a.1.Heads); rw [hv 9 (zat rfl)]; exact ⟨h.1, h.2.1.upv l (zbJ hd (c := 12) rfl), h.2.2.upv l (zbJ hd (c := 13) rfl)⟩) (zdd.cons (fun vs vs' W W' _ hv l hd h => by (show (vs' 10) = .tuple [.agg [(zaq (zaq (vs' 9) 0) 0), (zaq (zaq (vs' 9) 0) 1)].toArray, vB a.2].toArray); rw [hv 9 (zat rfl), hv 10 (zat rfl)]; exact h) (zdd.cons (fun vs vs' W W' _ hv l hd h => by (show (vs' 11) = .agg [(zaq (zaq (vs' 9) 0) 0), (zaq (zaq (vs' 9) 0) 1)].toArray); rw [hv 9 (zat rfl), hv 11 (zat rfl)]; exact h) (zdd.cons (fun vs vs' W W' _ hv l hd h => by (show (vs' 12) = vB a.2); rw [hv 12 (zat rfl)]; exact h) (zdd.cons (fun vs vs' W W' _ hv l hd h => by (show (vs' 13) = ptr (bx (pg (vs' 13))) ∧ Bx W' 14 (pg (vs' 13)) [.slice none 0 0, .slice none 0 0]); rw [hv 13 (zat rfl)]; exact ⟨h.1, h.2.up l (zbJ hd (c := 14) rfl)⟩) (zdd.cons (fun vs vs' W W' _ hv l hd h => by (show (vs' 13) = ptr (bx (pg (vs' 13))) ∧ Bx W' 14 (pg (vs' 13)) [(zaq (zaq (vs' 9) 0) 0), (zaq (zaq (vs' 9) 0) 1)]); rw [hv 9 (zat rfl), hv 13 (zat rfl)]; exact ⟨h.1, h.2.up l (zbJ hd (c := 14) rfl)⟩) (zdd.cons (fun vs vs' W W' _ hv l hd h => by (show (vs' 15) = vB a.2); rw [hv 15 (zat rfl)]; exact h) zdd.nil)))))))))))))))), ?_⟩
  ·intro vs W lW hN hV
   obtain ⟨c8, c9⟩ : ∃ X, X = W := ⟨W, rfl⟩
   subst c9
   refine Tr.mono (Run.tr (R.lda (cs := [e, f]) ((Z.up F).up lW rfl).cells rfl rfl)) ?_
   rintro _ _ ⟨hu, rfl⟩
   obtain rfl := hu.symm
   exact ⟨c8, rfl, Le.refl _ _, (show (.agg [e, f].toArray : Value) = .agg [e, f].toArray from rfl)⟩
  ·intro vs W lW hN hV
   obtain ⟨da, db⟩ : ∃ X, X = W := ⟨W, rfl⟩
   subst db
   refine Tr.mono (Run.tr (R.lda (cs := [e, f]) ((Z.up F).up lW rfl).cells rfl rfl)) ?_
   rintro _ _ ⟨hu, rfl⟩
   obtain rfl := hu.symm
   exact ⟨da, rfl, Le.refl _ _, (show (.agg [e, f].toArray : Value) = .agg [e, f].toArray from rfl)⟩
  ·intro vs W lW hN hV
   obtain ⟨ft, dc⟩ : ∃ X, X = W := ⟨W, rfl⟩
   subst dc
   have b4 := af.t lW rfl
   have ah : vs 1 = .agg [e, f].toArray := (hN 1 (zat rfl))
   obtain ⟨vs, rfl⟩ := zao ah
   refine Tr.mono (T.call rfl (p67 (k0 := 7) (k1 := 8) (Repo.rd (K := [0]) x0.Commits x0.Heads (D.ul b4) (E.ul b4)) c5)) ?_
   rintro _ _ ⟨ai, rfl, dd, ⟨aj, ak, rfl, de, df⟩⟩
   exact ⟨ai, rfl, dd, (show (.agg [aj, ak].toArray : Value) = .agg [aj, ak].toArray ∧ Ow ai 7 [] [aj] y.Commits ∧ Ow ai 8 [] [ak] y.Heads from ⟨rfl, de, df⟩)⟩
  ·intro vs W lW hN hV
   obtain ⟨dg, dh⟩ : ∃ X, X = W := ⟨W, rfl⟩
   subst dh
   refine Tr.mono (Run.tr (R.mv (v := vS x1) rfl)) ?_
   rintro _ _ ⟨hu, rfl⟩
   obtain rfl := hu.symm
   exact ⟨dg, rfl, Le.refl _ _, (show (vS x1 : Value) = vS x1 from rfl)⟩
  ·intro vs W lW hN hV
   obtain ⟨di, dj⟩ : ∃ X, X = W := ⟨W, rfl⟩
   subst dj
   refine Tr.mono (Run.tr (R.mv (v := vS x2) rfl)) ?_
   rintro _ _ ⟨hu, rfl⟩
   obtain rfl := hu.symm
   exact ⟨di, rfl, Le.refl _ _, (show (vS x2 : Value) = vS x2 from rfl)⟩
  ·intro vs W lW hN hV
   obtain ⟨dk, dl⟩ : ∃ X, X = W := ⟨W, rfl⟩
   subst dl
   refine Tr.mono (Run.tr (R.mv (v := i) rfl)) ?_
   rintro _ _ ⟨hu, rfl⟩
   obtain rfl := hu.symm
   exact ⟨dk, rfl, Le.refl _ _, (show (i : Value) = i from rfl)⟩
  ·intro vs W lW hN hV
   obtain ⟨dm, dn⟩ : ∃ X, X = W := ⟨W, rfl⟩
   subst dn
   refine Tr.mono (Run.tr (R.mv (v := vI k) rfl)) ?_
   rintro _ _ ⟨hu, rfl⟩
   obtain rfl := hu.symm
   exact ⟨dm, rfl, Le.refl _ _, (show (vI k : Value) = vI k from rfl)⟩
  ·intro vs W lW hN hV
   obtain ⟨dp, dq⟩ : ∃ X, X = W := ⟨W, rfl⟩
   subst dq
   have am : vs 6 = vI k := (hN 6 (zat rfl))
   obtain ⟨vs, rfl⟩ := zao am
   refine Tr.mono (T.bsS (α := Int) (xs := [k]) 9 [] (W := dp) [vI k] (Each.cons ((rdI _)) Each.nil) rfl) ?_
   rintro dr _ ⟨b5, rfl, ds, dt⟩
   exact ⟨b5, rfl, ds, (show Ow b5 9 [] [dr] ([k] : List Int) from dt)⟩
  ·intro vs W lW hN hV
   obtain ⟨J, du⟩ : ∃ X, X = W := ⟨W, rfl⟩
   subst du
   obtain ⟨an, ao, dv⟩ : ∃ an ao : Value, vs 2 = .agg [an, ao].toArray := ⟨_, _, (hN 2 (zat rfl)).1⟩
   obtain ⟨vs, rfl⟩ := zao dv
   have dw : Ow J 7 [] [an] y.Commits := (hN 2 (zat rfl)).2.1
   have dx : Ow J 8 [] [ao] y.Heads := (hN 2 (zat rfl)).2.2
   have ap : vs 3 = vS x1 := (hN 3 (zat rfl))
   obtain ⟨vs, rfl⟩ := zao ap
   have aq : vs 4 = vS x2 := (hN 4 (zat rfl))
   obtain ⟨vs, rfl⟩ := zao aq
   have ar : vs 5 = i := (hN 5 (zat rfl))
   obtain ⟨vs, rfl⟩ := zao ar
   obtain ⟨dy, dz⟩ : ∃ v, vs 7 = v := ⟨_, rfl⟩
   obtain ⟨vs, rfl⟩ := zao dz
   have d0 : Ow J 9 [] [dy] ([k] : List Int) := (hN 7 (zat rfl))
   have d1 : Rd (α := List Vm.File) J [4, 0] [i] C.1 := Ow.rdSh ((co.up F).up lW rfl)
   refine Tr.mono (T.call rfl (p157 (K := [0, 4]) (k0 := 10) (k1 := 11) (c0 := 7) (c1 := 8) (c2 := 9) (x0 := (Vm.Repo.mk y.Commits y.Heads)) dw dx (d1.sub (M := [0, 4]) rfl) d0 rfl c6)) ?_
   rintro _ _ ⟨au, rfl, d2, ⟨av, aw, rfl, d3, d4⟩⟩
   exact ⟨au, rfl, d2, (show (.agg [av, aw].toArray : Value) = .agg [av, aw].toArray ∧ Ow au 10 [] [av] z.Commits ∧ Ow au 11 [] [aw] z.Heads from ⟨rfl, d3, d4⟩)⟩
  ·intro vs W lW hN hV
   obtain ⟨b6, d5⟩ : ∃ X, X = W := ⟨W, rfl⟩
   subst d5
   have ax := af.t lW rfl
   have ay : vs 0 = .agg [e, f].toArray := (hN 0 (zat rfl))
   obtain ⟨vs, rfl⟩ := zao ay
   obtain ⟨az, a0, d6⟩ : ∃ az a0 : Value, vs 8 = .agg [az, a0].toArray := ⟨_, _, (hN 8 (zat rfl)).1⟩
   obtain ⟨vs, rfl⟩ := zao d6
   have d7 : Ow b6 10 [] [az] z.Commits := (hN 8 (zat rfl)).2.1
   have d8 : Ow b6 11 [] [a0] z.Heads := (hN 8 (zat rfl)).2.2
   refine Tr.mono (T.call rfl (p156 (k0 := 12) (k1 := 13) (c0 := 10) (c1 := 11) (x1 := (Vm.Repo.mk z.Commits z.Heads)) (Repo.rd (K := [0]) x0.Commits x0.Heads (D.ul ax) (E.ul ax)) d7 d8 (bn.ul ax) rfl c7)) ?_
   rintro _ _ ⟨a1, rfl, d9, ⟨a3, a5, rfl, ea, eb⟩⟩
   exact ⟨a1, rfl, d9, (show (.tuple [.agg [a3, a5].toArray, vB a.2].toArray : Value) = .tuple [.agg [a3, a5].toArray, vB a.2].toArray ∧ Ow a1 12 [] [a3] a.1.Commits ∧ Ow a1 13 [] [a5] a.1.Heads from ⟨rfl, ea, eb⟩)⟩
  ·intro vs W lW hN hV
   obtain ⟨a6, ec⟩ : ∃ X, X = W := ⟨W, rfl⟩
   subst ec
   obtain ⟨b, d, B⟩ : ∃ b d : Value, vs 9 = .tuple [.agg [b, d].toArray, vB a.2].toArray := ⟨_, _, (hN 9 (zat rfl)).1⟩
   obtain ⟨vs, rfl⟩ := zao B
   have fu : Ow a6 12 [] [b] a.1.Commits := (hN 9 (zat rfl)).2.1
   have fv : Ow a6 13 [] [d] a.1.Heads := (hN 9 (zat rfl)).2.2
   refine Tr.mono (Run.tr (R.mv (v := .tuple [.agg [b, d].toArray, vB a.2].toArray) rfl)) ?_
   rintro _ _ ⟨hu, rfl⟩
   obtain rfl := hu.symm
   exact ⟨a6, rfl, Le.refl _ _, (show (.tuple [.agg [b, d].toArray, vB a.2].toArray : Value) = .tuple [.agg [b, d].toArray, vB a.2].toArray from rfl)⟩
  ·intro vs W lW hN hV
   obtain ⟨a7, ed⟩ : ∃ X, X = W := ⟨W, rfl⟩
   subst ed
   obtain ⟨b, d, B⟩ : ∃ b d : Value, vs 9 = .tuple [.agg [b, d].toArray, vB a.2].toArray := ⟨_, _, (hN 9 (zat rfl)).1⟩
   obtain ⟨vs, rfl⟩ := zao B
   have fw : Ow a7 12 [] [b] a.1.Commits := (hN 9 (zat rfl)).2.1
   have fx : Ow a7 13 [] [d] a.1.Heads := (hN 9 (zat rfl)).2.2
   have G : vs 10 = .tuple [.agg [b, d].toArray, vB a.2].toArray := (hN 10 (zat rfl))
   obtain ⟨vs, rfl⟩ := zao G
   refine Tr.mono (Run.tr (R.ext (vs := [.agg [b, d].toArray, vB a.2]) (v := .agg [b, d].toArray) rfl rfl)) ?_
   rintro _ _ ⟨hu, rfl⟩
   obtain rfl := hu.symm
   exact ⟨a7, rfl, Le.refl _ _, (show (.agg [b, d].toArray : Value) = .agg [b, d].toArray from rfl)⟩
  ·intro vs W lW hN hV
   obtain ⟨a8, ee⟩ : ∃ X, X = W := ⟨W, rfl⟩
   subst ee
   obtain ⟨b, d, B⟩ : ∃ b d : Value, vs 9 = .tuple [.agg [b, d].toArray, vB a.2].toArray := ⟨_, _, (hN 9 (zat rfl)).1⟩
   obtain ⟨vs, rfl⟩ := zao B
   have fy : Ow a8 12 [] [b] a.1.Commits := (hN 9 (zat rfl)).2.1
   have fz : Ow a8 13 [] [d] a.1.Heads := (hN 9 (zat rfl)).2.2
   have G : vs 10 = .tuple [.agg [b, d].toArray, vB a.2].toArray := (hN 10 (zat rfl))
   obtain ⟨vs, rfl⟩ := zao G
   refine Tr.mono (Run.tr (R.ext (vs := [.agg [b, d].toArray, vB a.2]) (v := vB a.2) rfl rfl)) ?_
   rintro _ _ ⟨hu, rfl⟩
   obtain rfl := hu.symm
   exact ⟨a8, rfl, Le.refl _ _, (show (vB a.2 : Value) = vB a.2 from rfl)⟩
  ·intro vs W lW hN hV
   obtain ⟨f0, ef⟩ : ∃ X, X = W := ⟨W, rfl⟩
   subst ef
   refine Tr.mono (T.alloc 14 (cs := [.slice none 0 0, .slice none 0 0]) rfl) ?_
   rintro _ _ ⟨a9, b7, rfl, rfl, eg, eh⟩
   exact ⟨b7, rfl, eg, (show (ptr (bx a9) : Value) = ptr (bx a9) ∧ Bx b7 14 a9 [.slice none 0 0, .slice none 0 0] from ⟨rfl, eh⟩)⟩
  ·intro vs W lW hN hV
   obtain ⟨ba, ei⟩ : ∃ X, X = W := ⟨W, rfl⟩
   subst ei
   obtain ⟨b, d, B⟩ : ∃ b d : Value, vs 9 = .tuple [.agg [b, d].toArray, vB a.2].toArray := ⟨_, _, (hN 9 (zat rfl)).1⟩
   obtain ⟨vs, rfl⟩ := zao B
   have ej : Ow ba 12 [] [b] a.1.Commits := (hN 9 (zat rfl)).2.1
   have ek : Ow ba 13 [] [d] a.1.Heads := (hN 9 (zat rfl)).2.2
   have bb : vs 11 = .agg [b, d].toArray := (hN 11 (zat rfl))
   obtain ⟨vs, rfl⟩ := zao bb
   obtain ⟨A, bc⟩ : ∃ A, vs 13 = ptr (bx A) := ⟨_, ((hN 13 (zat rfl))).1⟩
   obtain ⟨vs, rfl⟩ := zao bc
   have el : Bx ba 14 A [.slice none 0 0, .slice none 0 0] := (hN 13 (zat rfl)).2
   refine Tr.mono (T.sta (vs := [b, d]) el rfl rfl (zaa ej.oc (zaa ek.oc zaR)) rfl rfl) ?_
   rintro _ _ ⟨b8, rfl, em, en⟩
   exact ⟨b8, rfl, em, (show (ptr (bx A)) = ptr (bx A) ∧ Bx b8 14 A [b, d] from ⟨rfl, en⟩)⟩
  ·intro vs W lW hN hV
   obtain ⟨eo, ep⟩ : ∃ X, X = W := ⟨W, rfl⟩
   subst ep
   have be : vs 12 = vB a.2 := (hN 12 (zat rfl))
   obtain ⟨vs, rfl⟩ := zao be
   refine Tr.mono (Run.tr (R.as (v := vB a.2) rfl)) ?_
   rintro _ _ ⟨hu, rfl⟩
   obtain rfl := hu.symm
   exact ⟨eo, rfl, Le.refl _ _, (show (vB a.2 : Value) = vB a.2 from rfl)⟩
  ·intro vs W lW hN
   obtain ⟨bg, er⟩ : ∃ X, X = W := ⟨W, rfl⟩
   subst er
   have b9 := af.t lW rfl
   have cb := (bw.up F).up lW rfl
   obtain ⟨f1, hl251⟩ : ∃ x, x = lW := ⟨lW, rfl⟩
   have ay : vs 0 = .agg [e, f].toArray := (hN 0 (zat rfl))
   obtain ⟨vs, rfl⟩ := zao ay
   have ah : vs 1 = .agg [e, f].toArray := (hN 1 (zat rfl))
   obtain ⟨vs, rfl⟩ := zao ah
   have ap : vs 3 = vS x1 := (hN 3 (zat rfl))
   obtain ⟨vs, rfl⟩ := zao ap
   have aq : vs 4 = vS x2 := (hN 4 (zat rfl))
   obtain ⟨vs, rfl⟩ := zao aq
   have ar : vs 5 = i := (hN 5 (zat rfl))
   obtain ⟨vs, rfl⟩ := zao ar
   have am : vs 6 = vI k := (hN 6 (zat rfl))
   obtain ⟨vs, rfl⟩ := zao am
   obtain ⟨b, d, B⟩ : ∃ b d : Value, vs 9 = .tuple [.agg [b, d].toArray, vB a.2].toArray := ⟨_, _, (hN 9 (zat rfl)).1⟩
   obtain ⟨vs, rfl⟩ := zao B
   have L : Ow bg 12 [] [b] a.1.Commits := (hN 9 (zat rfl)).2.1
   have N : Ow bg 13 [] [d] a.1.Heads := (hN 9 (zat rfl)).2.2
   have G : vs 10 = .tuple [.agg [b, d].toArray, vB a.2].toArray := (hN 10 (zat rfl))
   obtain ⟨vs, rfl⟩ := zao G
   have bb : vs 11 = .agg [b, d].toArray := (hN 11 (zat rfl))
   obtain ⟨vs, rfl⟩ := zao bb
   have be : vs 12 = vB a.2 := (hN 12 (zat rfl))
   obtain ⟨vs, rfl⟩ := zao be
   obtain ⟨A, bc⟩ : ∃ A, vs 13 = ptr (bx A) := ⟨_, (hN 14 (zat rfl)).1⟩
   obtain ⟨vs, rfl⟩ := zao bc
   have cc : Bx bg 14 A [b, d] := (hN 14 (zat rfl)).2
   have es : vs 15 = vB a.2 := (hN 15 (zat rfl))
   obtain ⟨vs, rfl⟩ := zao es
   refine ssr (mb rfl (Lw.r rfl (R.not rfl) (nl (cn hm (fun hm => ?_) fun hm => ?_))))
   ·refine sr (Lw.r rfl (R.lda (cs := [b, d]) cc.cells rfl rfl) (sta cb (zaa L.oc (zaa N.oc zaR)) fun f2 bh et => ?_))
    have eu := b9.t bh
    refine Ni rfl ?_
    obtain ⟨f3, ew, bi, ex⟩ := (L.up bh).dyeO 31
    have ey := eu.t bi
    obtain ⟨f4, ez, bj, e0⟩ := ((N.up bh).up bi).dyeO 32
    have e1 := ey.t bj
    cases hm
    rw [← ez.trans (ew)]
    exact Cw.ret (zjH rfl ((et.up bi).up bj) rfl (Res.mk e1 ⟨b, d, rfl, (ex.up bj).s, e0.s⟩))
   ·refine sk (sr (Lw.r rfl (R.lda (cs := [b, d]) cc.cells rfl rfl) (sta cb (zaa L.oc (zaa N.oc zaR)) fun f5 bk e2 => ?_)))
    have e3 := b9.t bk
    refine Ni rfl ?_
    obtain ⟨f6, e4, bl, e5⟩ := (L.up bk).dyeO 31
    have e6 := e3.t bl
    obtain ⟨f7, e7, bm, e8⟩ := ((N.up bk).up bl).dyeO 32
    have e9 := e6.t bm
    cases hm
    rw [← e7.trans (e4)]
    exact Cw.ret (zjH rfl ((e2.up bl).up bm) rfl (Res.mk e9 ⟨b, d, rfl, (e5.up bm).s, e8.s⟩))
theorem p129 {x0 d f x1 x2 x3 h x4 i k0 k1 r} (k : Rd W K [d, f] x0) (x : Rd W K [h] x3) (y : Rd W K [i] x4) (z : Gl 0 W K) (hm : Vm.zbj x0 x1 x2 x3 x4 = some r) : Q1 129 [.agg [d, f].toArray, vS x1, vS x2, h, i] W [] fun W' v => ∃ a b, v = .tuple [.agg [a, b].toArray, vI r.2].toArray ∧ Ow W' k0 [] [a] r.1.Commits ∧ Ow W' k1 [] [b] r.1.Heads :=
 zaj.adJ (J := []) (fun c => bif Nat.beq c 0 then 0 else bif Nat.beq c 31 then k0 else bif Nat.beq c 32 then k1 else 0) (c129 (k.view _) (x.view _) (y.view _) (z.view _) hm) fun _ _ ⟨a, b, e, A, B⟩ => ⟨a, b, e, A.one1.backN rfl, B.one1.backN rfl⟩
theorem c70 {x0 d e x1 x2 x3 x4 r} (h0 : Rd W0 [0] [d, e] x0) (a8 : Gl 0 W0 [0]) (hm : Vm.zcO x0 x1 x2 x3 x4 = some r) : Q0 70 [.agg [d, e].toArray, vS x1, vS x2, vI x3, vB x4] W0 fun Wf v => ∃ an ao, v = .tuple [.agg [an, ao].toArray, vI r.2].toArray ∧ OwS Wf [31] [] [an] r.1.Commits ∧ OwS Wf [32] [] [ao] r.1.Heads := by
 unfold Vm.zcO at hm
 obtain ⟨ct, cu, ap, a, b⟩ := Repo.split h0
 simp only [List.cons.injEq, and_true, true_and] at ap
 obtain ⟨rfl, rfl⟩ := ap
 refine zaj.of Tryz.func70 rfl rfl rfl rfl (sr (bo 2 rfl fun g1 W1 l1 b1 => ?_))
 have a2 := l1.o
 refine al 3 [.slice none 0 0, .slice none 0 0] fun g3 W3 l3 b3 => ?_
 have A := a2.n l3
 have B := b1.up l3
 refine Ni rfl (Cw.seq ?_)
 obtain ⟨K8, bh, hm⟩ := zaS hm
 refine Cw.join 14 28 [28] (fun l w => ∃ P Q, CW.w Q = w ∧ Le [] W3 Q ∧ l = [vB P] ∧ K8 P = some r) ?_ ?_
 ·rintro _ _ σ ⟨P, Q, rfl, f, rfl, hm⟩
  rw [bh] at hm
  have C := A.n f
  refine cn hm (fun hm => ?_) fun hm => ?_
  ·refine sr (la (B.up f) (cr hm (fun _ => p67 (k0 := 4) (k1 := 5) (Repo.rd (K := [0]) x0.Commits x0.Heads (a.ul C) (b.ul C))) ?_))
   rintro cy _ cz hm au ⟨bi, bj, rfl, av, aw⟩
   have bk := C.n au
   refine sta ((b3.up f).up au) (zaa av.oc (zaa aw.oc zaR)) fun c0 S bl => ?_
   have bm := bk.t S
   refine Ni rfl ?_
   obtain ⟨c1, bn, U, bp⟩ := (av.up S).dyeO 31
   have bq := bm.t U
   obtain ⟨c2, br, V, bu⟩ := ((aw.up S).up U).dyeO 32
   have bv := bq.t V
   cases hm
   rw [← br.trans (bn)]
   exact Cw.ret (zjH rfl ((bl.up U).up V) rfl (Res.mk bv ⟨bi, bj, rfl, (bp.up V).s, bu.s⟩))
  ·refine sk (Cw.seq (Cw.draw [] [(0, 1), (1, 1), (2, 0), (5, 1), (6, 0), (3, 2), (4, 2), (7, 2), (8, 0), (9, 0)] mixed (by kernel_rfl) fun c3 W => ?_))
   have X := C.n W
   have D := (B.up f).up W
   refine Mw.q rfl rfl (fun _ c => R.lda (cs := [d, e]) (D.clcs rfl c) rfl rfl) (Mw.q rfl rfl (fun _ c => R.lda (cs := [d, e]) (D.clcs rfl c) rfl rfl) (Di rfl (Mw.q rfl rfl (fun _ c => R.lda (cs := [d, e]) (D.clcs rfl c) rfl rfl) (Di rfl ?_))))
   obtain ⟨c4, bw, hm⟩ := ob hm
   refine Mw.t rfl rfl (T.call rfl (p128  (Repo.rd (K := [0]) x0.Commits x0.Heads (a.ul X) (b.ul X)) bw)) ?_
   rintro _ _ ⟨c5, rfl, E, rfl⟩
   have Y := X.n E
   refine m0 E fun bz => ?_
   obtain ⟨ax, b0, hm⟩ := ob hm
   refine Mw.t rfl rfl (T.call rfl (p80  (Repo.rd (K := [0]) x0.Commits x0.Heads (a.ul Y) (b.ul Y)) b0)) ?_
   rintro h _ ⟨c6, rfl, F, ⟨_, rfl, b2⟩⟩
   have ay := b2.sub (M := [0]) rfl
   have Z := Y.n F
   refine mc bz F fun b4 => ?_
   obtain ⟨az, b6, hm⟩ := ob hm
   refine Mw.t rfl rfl (T.call rfl (p80  (Repo.rd (K := [0]) x0.Commits x0.Heads (a.ul Z) (b.ul Z)) b6)) ?_
   rintro i _ ⟨aa, rfl, G, ⟨_, rfl, b7⟩⟩
   have a0 := b7.sub (M := [0]) rfl
   have ac := G.o
   refine mc b4 G fun c7 => Hv h rfl (Hv i rfl (Mw.nil ?_))
   obtain ⟨b8, b9, hm⟩ := zaS hm
   refine Cw.join 39 41 [12, 13] (fun l w => ∃ ae af H I k, CW.w k = w ∧ Le [] aa k ∧ l = [H, I] ∧ Rd k [0] [H] ae ∧ Rd k [0] [I] af ∧ b8 ae af = some r) ?_ ?_
   ·rintro _ _ σ ⟨ae, af, H, I, k, rfl, ah, rfl, r68, r71, hm⟩
    rw [b9] at hm
    have J := (Z.trans ac).n ah
    refine sr (la ((((D.up E).up F).up G).up ah) (ms rfl (ms rfl (mv H rfl (mv I rfl (cr hm (fun _ => p129 (k0 := 6) (k1 := 7) (Repo.rd (K := [0]) x0.Commits x0.Heads (a.ul J) (b.ul J)) r68 r71 (a8.ul J)) ?_))))))
    rintro ai _ c8 hm a1 ⟨L, N, rfl, a3, a5⟩
    have cb := J.n a1
    refine Lw.r rfl (R.ext (vs := [.agg [L, N].toArray, vI ai.2]) (v := .agg [L, N].toArray) rfl rfl) (Lw.r rfl (R.ext (vs := [.agg [L, N].toArray, vI ai.2]) (v := vI ai.2) rfl rfl) (sta (((((((b3.up f).up W).up E).up F).up G).up ah).up a1) (zaa a3.oc (zaa a5.oc zaR)) fun c9 aj cc => ?_))
    have cd := cb.t aj
    refine Ni rfl ?_
    obtain ⟨da, ce, ak, cf⟩ := (a3.up aj).dyeO 31
    have cg := cd.t ak
    obtain ⟨db, ch, am, ci⟩ := ((a5.up aj).up ak).dyeO 32
    have cj := cg.t am
    cases hm
    rw [← ch.trans (ce)]
    exact Cw.ret (zjH rfl ((cc.up ak).up am) rfl (Res.mk cj ⟨L, N, rfl, (cf.up am).s, ci.s⟩))
   ·refine sr (mb rfl (nl (cn hm (fun hm => ?_) fun hm => ?_)))
    ·exact rg (mv i rfl (mv h rfl (Gv i rfl (Nv h rfl ((ag) ⟨az, ax, i, h, aa, rfl, Le.refl _ _, rfl, a0, (ay.ul ac), hm⟩)))))
    ·exact sk ((ag) ⟨ax, az, h, i, aa, rfl, Le.refl _ _, rfl, (ay.ul ac), a0, hm⟩)
 ·refine rg (la B (ms rfl (ca hm (fun _ => p65 (Repo.rd (K := [0]) x0.Commits x0.Heads (a.ul A) (b.ul A))) fun dc ck hm x => ?_)))
  have cl := A.n x
  refine Lw.lt rfl (mb rfl (bs hm (fun y hm => ?_) fun y hm => ?_))
  ·exact psk 3 y rfl (Pb y rfl (mb rfl (psk 4 rfl rfl (Pb rfl rfl (nl ((ag) ⟨true, ck, rfl, x, rfl, hm⟩))))))
  ·refine wak 3 y (ms rfl (ca hm (fun _ => p84) fun dd cm hm O => ?_))
   have a6 := cl.n O
   refine Lw.r rfl (R.not rfl) (Pb y rfl (mb rfl (bs hm (fun z hm => ?_) fun z hm => ?_)))
   ·exact psk 4 z rfl (Pb z rfl (nl ((ag) ⟨true, cm, rfl, (x.j O).w, rfl, hm⟩)))
   ·exact wak 4 z (la ((B.up x).up O) (mi rfl (ca hm (fun _ => p66 (Repo.rd (K := [0]) x0.Commits x0.Heads (a.ul a6) (b.ul a6))) fun co cp hm cq => Lw.r rfl (R.not rfl) (Pb z rfl (nl ((ag) ⟨(!co), cp, rfl, ((x.j O).j cq).w, rfl, hm⟩))))))
theorem p70 {x0 d f x1 x2 x3 x4 k0 k1 r} (h : Rd W K [d, f] x0) (i : Gl 0 W K) (hm : Vm.zcO x0 x1 x2 x3 x4 = some r) : Q1 70 [.agg [d, f].toArray, vS x1, vS x2, vI x3, vB x4] W [] fun W' v => ∃ a b, v = .tuple [.agg [a, b].toArray, vI r.2].toArray ∧ Ow W' k0 [] [a] r.1.Commits ∧ Ow W' k1 [] [b] r.1.Heads :=
 zaj.adJ (J := []) (fun c => bif Nat.beq c 0 then 0 else bif Nat.beq c 31 then k0 else bif Nat.beq c 32 then k1 else 0) (c70 (h.view _) (i.view _) hm) fun _ _ ⟨a, b, e, k, x⟩ => ⟨a, b, e, k.one1.backN rfl, x.one1.backN rfl⟩
end Go.Sx
