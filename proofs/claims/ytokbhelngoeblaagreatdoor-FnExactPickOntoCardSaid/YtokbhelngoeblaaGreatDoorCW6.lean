/- Walks: each function answers as its model, printed by a program of ours. Conditions: the arguments read as they are given. -/
import Derived.Test.YtokbhelngoeblaaGreatDoorCTs
import Derived.Test.YtokbhelngoeblaaGreatDoorCM2
import Derived.Test.YtokbhelngoeblaaGreatDoorCW0
import Derived.Test.YtokbhelngoeblaaGreatDoorCW5
namespace Go.Sx
open Go Go.Proofs Go.Vm Rp
set_option linter.unusedVariables false
set_option linter.unusedSimpArgs false
variable {W W0 : CW} {K : List Nat}
theorem c138 {x0 G x1 H x2 I r} (h0 : Rd W0 [0] [G] x0) (h1 : Rd W0 [0] [H] x1) (h2 : Rd W0 [0] [I] x2) (hm : Vm.zki x0 x1 x2 = some r) : Q0 138 [G, H, I] W0 fun Wf v => ∃ u0 u1, v = .tuple [u0, u1].toArray ∧ OwS Wf [31] [] [u0] r.1 ∧ OwS Wf [32] [] [u1] r.2 := by
 unfold Vm.zki at hm
 refine zau.of Tryz.func138 rfl rfl rfl rfl (sr (Gv (.slice none 0 0) rfl (Nv (.slice none 0 0) rfl (sr (Lw.t rfl (T.lit0 (α := File) 2 []) ?_)))))
 rintro v1 _ ⟨W1, rfl, l1, o1⟩
 have a2 := l1.o
 refine Nv v1 rfl (sr (Lw.t rfl (T.lit0 (α := Clash) 3 []) ?_))
 rintro v3 _ ⟨W3, rfl, l3, o3⟩
 have L := a2.n l3
 refine Nv v3 rfl (sr (mv G rfl (mv H rfl (mv I rfl (cr hm (fun _ => p175 (h0.ul L) (h1.ul L) (h2.ul L)) ?_)))))
 rintro z9 y a0 hm ac ⟨_, rfl, bu⟩
 have N := bu.sub (M := [0]) rfl
 have O := L.n ac
 refine Nv y rfl (ssr (Ni rfl (Cw.block ?_)))
 obtain ⟨bv, bw, hm⟩ := zbk hm
 refine Cw.loop 21 61 [8, 9, 11, 12, 13, 14] (fun m l w => ∃ P Q S d e a1 a3 a5 f, CW.w f = w ∧ Le [2, 3, 4] a0 f ∧ l = [d, e, vI S, a1, a3, a5] ∧ Ow f 2 [] [d] P ∧ Ow f 3 [] [e] Q ∧ Vm.zem x0 x1 x2 z9 bv m P Q S = some r) _ ⟨([] : List File), ([] : List Clash), 0, v1, v3, undef, undef, undef, a0, rfl, Le.refl _ _, rfl, ((o1.up l3).up ac), (o3.up ac), hm⟩ ?_
 rintro (_ | c0) _ _ σ ⟨P, Q, S, d, e, a1, a3, a5, f, rfl, a6, rfl, a7, ae, hm⟩
 ·cases hm
 unfold Vm.zem at hm
 have h := a6.s
 refine ssr ?_
 have af := N.ul h
 refine mi rfl (mv y rfl (Lw.ln z9 af rfl (Lw.lt rfl (nl (cn hm (fun hm => ?_) fun hm => ?_)))))
 ·refine sk ?_
  obtain ⟨bz, b0, hm⟩ := zbk hm
  refine Cw.join 27 61 [8, 9, 12, 13, 14] (fun l w => ∃ U V W X ah ai aj i, CW.w i = w ∧ Le [2, 3, 4] f i ∧ l = [W, X, ah, ai, aj] ∧ Ow i 2 [] [W] U ∧ Ow i 3 [] [X] V ∧ bz U V = some r) ?_ ?_
  ·rintro _ _ σ ⟨U, V, W, X, ah, ai, aj, i, rfl, b1, rfl, b2, b3, hm⟩
   rw [b0] at hm
   exact rg (mi rfl (Lw.add rfl (Ni rfl ((agm) ⟨U, V, w64 (S + 1), W, X, ah, ai, aj, i, rfl, (a6.j b1).w, rfl, b2, b3, hm⟩))))
  ·refine Cw.block (sr (mv G rfl (mv H rfl (mv I rfl (mv y rfl (mi rfl ?_))))))
   obtain ⟨c1, a8, hm⟩ := ob hm
   refine Lw.r rfl (R.ix (α := Str) af a8 rfl rfl rfl) (Lw.r rfl (R.ld rfl rfl (af.at_ a8).str) (cr hm (fun _ => p176 (h0.ul (O.trans h)) (h1.ul (O.trans h)) (h2.ul (O.trans h))) ?_))
   rintro a _ a9 hm k ⟨b, rfl, b4⟩
   have b5 := b4.sub (M := [0]) rfl
   have ak := h.n k
   refine mv (.tuple [b, vB a.2.1, vI a.2.2].toArray) rfl (Lw.r rfl (R.ext (vs := [b, vB a.2.1, vI a.2.2]) (v := b) rfl rfl) (Lw.r rfl (R.ext (vs := [b, vB a.2.1, vI a.2.2]) (v := vB a.2.1) rfl rfl) (Lw.r rfl (R.ext (vs := [b, vB a.2.1, vI a.2.2]) (v := vI a.2.2) rfl rfl) (Gv b rfl (Gb rfl (Ni rfl ?_))))))
   obtain ⟨b6, b7, hm⟩ := zbk hm
   refine Cw.join 39 49 [9] (fun l w => ∃ z A B, CW.w B = w ∧ Le [3] a9 B ∧ l = [A] ∧ Ow B 3 [] [A] z ∧ b6 z = some r) ?_ ?_
   ·rintro _ _ σ ⟨z, A, B, rfl, Y, rfl, ba, hm⟩
    rw [b7] at hm
    have bb := Y.s
    have bc := (a7.up k).up Y
    refine sr (mb rfl (nl (cn hm (fun hm => ?_) fun hm => ?_)))
    ·refine Cw.draw [2, 4] [(0, 0), (1, 0), (2, 0), (3, 0), (4, 1), (6, 0), (5, 2), (7, 2), (8, 0), (9, 3), (10, 2), (11, 0)] mixed (by kernel_rfl) fun c2 Z => ?_
     have be := Z.o
     refine Dv d rfl (Dv y rfl (Di rfl ?_))
     obtain ⟨C, am, hm⟩ := ob hm
     have an := N.ul ((ak.trans bb).trans be)
     refine Mw.p rfl rfl (fun _ => R.ix (α := Str) an am rfl rfl rfl) (Mw.q rfl rfl (fun _ c => R.ld rfl rfl (zaz (an.at_ am).1 rfl (an.at_ am).str c)) (Dv b rfl (Mw.t rfl rfl (T.lit0 (α := Str) 4 []) ?_)))
     rintro c3 _ ⟨c4, rfl, x, b8⟩
     have b9 := (bb.trans be).n x
     refine m0 x fun cb => ?_
     obtain ⟨cc, cd, hm⟩ := ob hm
     refine Mw.t rfl rfl (T.appP (α := Str) b8 (b5.ul b9) rfl rfl cd) ?_
     rintro aa _ ⟨c5, rfl, D, bg⟩
     refine mc cb D fun c6 => Mw.p rfl rfl (fun _ => R.bd (zs := [vS ([] : Str), .slice none 0 0]) (cs := [vS C, aa]) [(0, vS C), (1, aa)] rfl rfl rfl (zaK rfl rfl (zaK bg.oc rfl zdL))) (Mw.l rfl rfl (T.bs 5 [.agg [vS C, aa].toArray] (cs := [vS C, aa]) rfl rfl (bsA rfl)) ?_)
     rintro _ _ ⟨c7, c8, rfl, rfl, E, ce⟩
     obtain ⟨cf, cg, hm⟩ := ob hm
     refine Mw.t rfl rfl (T.app1 (α := File) (J := [4]) (K' := []) ((((bc.up Z).up x).up D).up E) ce (File.own C cc (bg.up E).s) rfl rfl cg) ?_
     rintro bh _ ⟨ch, rfl, ao, ci⟩
     refine ⟨⟨_, rfl, ((x.sub (M := [2, 4]) rfl).trans ((D.sub (M := [2, 4]) rfl).trans ((E.sub (M := [2, 4]) rfl).trans (ao.sub (M := [2, 4]) rfl))))⟩, ?_⟩
     exact Hv bh rfl (Mw.nil ((ag) ⟨cf, z, bh, A, b, vB a.2.1, vI a.2.2, ch, rfl, ((((((k.j Y).j Z).j x).j D).j E).j ao).w, rfl, ci, (((((ba.up Z).up x).up D).up E).up ao), hm⟩))
    ·exact sk ((ag) ⟨P, z, d, A, b, vB a.2.1, vI a.2.2, B, rfl, (k.j Y).w, rfl, bc, ba, hm⟩)
   ·refine sr (mi rfl (Lw.gt rfl (nl (cn hm (fun hm => ?_) fun hm => ?_))))
    ·refine rg (mv e rfl (mv y rfl (mi rfl ?_)))
     obtain ⟨F, bi, hm⟩ := ob hm
     refine Lw.r rfl (R.ix (α := Str) (N.ul ak) bi rfl rfl rfl) (Lw.r rfl (R.ld rfl rfl ((N.ul ak).at_ bi).str) (mi rfl (Lw.r rfl (R.bd (zs := [vS ([] : Str), vI 0]) (cs := [vS F, vI a.2.2]) [(0, vS F), (1, vI a.2.2)] rfl rfl rfl (zaK rfl rfl (zaK rfl rfl zdL))) (Lw.t rfl (T.bs 6 [.agg [vS F, vI a.2.2].toArray] (cs := [vS F, vI a.2.2]) rfl rfl (bsA rfl)) ?_))))
     rintro _ _ ⟨c9, da, rfl, rfl, bj, cj⟩
     obtain ⟨ck, cl, hm⟩ := ob hm
     refine Lw.t rfl (T.app1S (α := Clash) (K' := []) ((ae.up k).up bj) cj (Clash.rd (K := []) F a.2.2) rfl rfl cl) ?_
     rintro bk _ ⟨cm, rfl, co, cp⟩
     exact Nv bk rfl ((ag) ⟨ck, bk, cm, rfl, (bj.j co).w, rfl, cp, hm⟩)
    ·exact sk ((ag) ⟨Q, e, a9, rfl, Le.refl _ _, rfl, (ae.up k), hm⟩)
 ·refine Cw.exit ?_
  rw [bw] at hm
  refine sr (mv d rfl (mv e rfl (Gv d rfl (Nv e rfl ?_))))
  obtain ⟨db, cq, bl, ct⟩ := a7.dyeO 31
  have cu := (O.trans h).t bl
  obtain ⟨dc, cv, bm, cw⟩ := (ae.up bl).dyeO 32
  have cx := cu.t bm
  cases hm
  rw [← cv.trans (cq)]
  exact Cw.ret (zqd rfl rfl (Res.mk cx ⟨d, e, rfl, (ct.up bm).s, cw.s⟩))
theorem p138 {x0 d x1 f x2 h k0 k1 r} (i : Rd W K [d] x0) (k : Rd W K [f] x1) (x : Rd W K [h] x2) (hm : Vm.zki x0 x1 x2 = some r) : Q1 138 [d, f, h] W [] fun W' v => ∃ a b, v = .tuple [a, b].toArray ∧ Ow W' k0 [] [a] r.1 ∧ Ow W' k1 [] [b] r.2 :=
 zau.adJ (J := []) (fun c => bif Nat.beq c 0 then 0 else bif Nat.beq c 31 then k0 else bif Nat.beq c 32 then k1 else 0) (c138 (i.view _) (k.view _) (x.view _) hm) fun _ _ ⟨a, b, e, y, z⟩ => ⟨a, b, e, y.one1.backN rfl, z.one1.backN rfl⟩
theorem c81 {x0 e x1 f x2 h r} (A : Rd W0 [0] [e] x0) (P : Rd W0 [0] [f] x1) (Q : Rd W0 [0] [h] x2) (hm : Vm.zgU x0 x1 x2 = some r) : Q0 81 [e, f, h] W0 fun Wf v => ∃ B C, v = .tuple [B, C].toArray ∧ OwS Wf [31] [] [B] r.1 ∧ OwS Wf [32] [] [C] r.2 := by
 unfold Vm.zgU at hm
 refine zau.of Tryz.func81 rfl rfl rfl rfl (sr (Gv (.slice none 0 0) rfl (Nv (.slice none 0 0) rfl (sr (mv e rfl (mv f rfl (mv h rfl (cr hm (fun _ => p138 (k0 := 2) (k1 := 3) A P Q) ?_))))))))
 rintro S _ D hm U ⟨a, b, rfl, E, F⟩
 have V := U.o
 refine mv (.tuple [a, b].toArray) rfl (Lw.r rfl (R.ext (vs := [a, b]) (v := a) rfl rfl) (Lw.r rfl (R.ext (vs := [a, b]) (v := b) rfl rfl) (Gv a rfl (Nv b rfl (Cw.seq ?_)))))
 obtain ⟨W, X, hm⟩ := zbk hm
 refine Cw.join 17 24 [24] (fun l w => ∃ i k, CW.w k = w ∧ Le [] D k ∧ l = [vB i] ∧ W i = some r) ?_ ?_
 ·rintro _ _ σ ⟨i, k, rfl, y, rfl, hm⟩
  rw [X] at hm
  have z := V.n y
  refine cn hm (fun hm => ?_) fun hm => ?_
  ·refine sr (mv e rfl (cr hm (fun _ => p83 (k0 := 4) (A.ul z)) ?_))
   rintro ay G az hm Y ⟨_, rfl, Z⟩
   have aa := z.n Y
   refine Lw.r rfl (R.bd (zs := [vS ([] : Str), vI 0]) (cs := [vS ([] : Str), vI 4]) [(1, vI 4)] rfl rfl rfl (zaK rfl rfl zdL)) (Lw.t rfl (T.bsO (α := Clash) (J := []) (xs := [Vm.Clash.mk ([] : Str) 4]) 5 [.agg [vS ([] : Str), vI 4].toArray] (bsL [[vS ([] : Str), vI 4]] (zCx rfl zBN) (OwL.cons (x := (Vm.Clash.mk ([] : Str) 4)) (OwS.atm (K := []) (Clash.rd (K := []) ([] : Str) 4)) OwL.nil)) rfl) ?_)
   rintro H _ ⟨a0, rfl, I, ac⟩
   have ae := aa.n I
   refine Gv G rfl (Nv H rfl ?_)
   obtain ⟨a1, af, L, ah⟩ := (Z.up I).dyeO 31
   have ai := ae.t L
   obtain ⟨a2, aj, M, ak⟩ := (ac.up L).dyeO 32
   have am := ai.t M
   cases hm
   rw [← aj.trans (af)]
   exact Cw.ret (zqd rfl rfl (Res.mk am ⟨G, H, rfl, (ah.up M).s, ak.s⟩))
  ·refine sk (sr (mv a rfl (mv b rfl (Gv a rfl (Nv b rfl ?_)))))
   obtain ⟨a3, an, N, ao⟩ := (E.up y).dyeO 31
   have ap := z.t N
   obtain ⟨a5, aq, O, ar⟩ := ((F.up y).up N).dyeO 32
   have au := ap.t O
   cases hm
   rw [← aq.trans (an)]
   exact Cw.ret (zqd rfl rfl (Res.mk au ⟨a, b, rfl, (ao.up O).s, ar.s⟩))
 ·refine rg (mv b rfl (Lw.ln S.2 F.rd rfl (Lw.eq rfl (mb rfl (bs hm (fun d hm => ?_) fun d hm => ?_)))))
  ·exact wak 3 d (mv a rfl (ca hm (fun _ => p119 (K := [2]) E.rd) fun av aw hm ax => Lw.r rfl (R.not rfl) (Pb d rfl (nl ((ag) ⟨(!av), aw, rfl, ax, rfl, hm⟩)))))
  ·exact psk 3 d rfl (Pb d rfl (nl ((ag) ⟨false, D, rfl, Le.refl _ _, rfl, hm⟩)))
theorem p81 {x0 d x1 f x2 h k0 k1 r} (i : Rd W K [d] x0) (k : Rd W K [f] x1) (x : Rd W K [h] x2) (hm : Vm.zgU x0 x1 x2 = some r) : Q1 81 [d, f, h] W [] fun W' v => ∃ a b, v = .tuple [a, b].toArray ∧ Ow W' k0 [] [a] r.1 ∧ Ow W' k1 [] [b] r.2 :=
 zau.adJ (J := []) (fun c => bif Nat.beq c 0 then 0 else bif Nat.beq c 31 then k0 else bif Nat.beq c 32 then k1 else 0) (c81 (i.view _) (k.view _) (x.view _) hm) fun _ _ ⟨a, b, e, y, z⟩ => ⟨a, b, e, y.one1.backN rfl, z.one1.backN rfl⟩
theorem c123 {x0 y a x1 x2 d e r} (h0 : Rd W0 [0] [y, a] x0) (h2 : Rd W0 [0] [d, vS x2.Who, e] x2) (hm : Vm.zeL x0 x1 x2 = some r) : Q0 123 [.agg [y, a].toArray, vS x1, .agg [d, vS x2.Who, e].toArray] W0 fun Wf v => ∃ af ah, v = .agg [af, ah].toArray ∧ Rd Wf [0] [af] r.Commits ∧ Rd Wf [0] [ah] r.Heads := by
 unfold Vm.zeL at hm
 obtain ⟨dr, ds, ai, aj, F⟩ := Repo.split h0
 simp only [List.cons.injEq, and_true, true_and] at ai
 obtain ⟨rfl, rfl⟩ := ai
 obtain ⟨dt, du, ak, bc, be⟩ := Commit.split h2
 simp only [List.cons.injEq, and_true, true_and] at ak
 obtain ⟨rfl, rfl⟩ := ak
 refine zau.of Tryz.func123 rfl rfl rfl rfl (sr (bo 2 rfl fun f W1 l1 b1 => ?_))
 have a2 := l1.o
 refine bo 3 rfl fun g3 W3 l3 b3 => ?_
 have a4 := a2.n l3
 refine al 4 [.slice none 0 0, .slice none 0 0] fun g6 W6 G b6 => ?_
 have a7 := a4.n G
 refine nl (Cw.seq ?_)
 obtain ⟨B, bn, hm⟩ := ob hm
 obtain ⟨i, bp, hm⟩ := ob hm
 refine Cw.par [[], [], [1], [0, 1, 2], [], [4], [0, 1, 2, 3, 4, 5], [], [7], [0, 1, 2, 3, 4, 5, 6, 7, 8], [], [0, 1, 2, 3, 4, 5, 6, 7, 8, 9, 10]] [[], [], [1], [0, 2], [], [4], [3, 5], [], [7], [6, 8], [], [6, 9, 10]] [[], [], [], [5], [], [], [5], [], [], [], [], [7]] [[0], [1], [2], [3], [4], [5], [6], [7], [8], [6, 9], [10], [6, 10]] [[5], [], [], [0, 5], [], [6], [0, 5], [], [], [], [7], [7]] [1, 2, 4, 5, 6, 7, 8, 9, 11] [5, 7] [fun vs W => Ow W 5 [] [(vs 0)] ([] : List Commit), fun vs W => (vs 1) = ptr ((bx f).add 0), fun vs W => (vs 2) = y, fun vs W => Ow (α := List (Sh Vm.Commit)) W 5 [0] [(vs 3)] B, fun vs W => (vs 4) = .agg [d, vS x2.Who, e].toArray, fun vs W => (vs 5) = .slice (some (bx (pg (vs 5)))) 1 1 ∧ Bx W 6 (pg (vs 5)) [d, vS x2.Who, e], fun vs W => Ow (α := List (Sh Vm.Commit)) W 5 [0] [(vs 6)] i, fun vs W => (vs 7) = ptr ((bx f).add 1), fun vs W => (vs 8) = a, fun vs W => (vs 9) = .agg [(vs 6), a].toArray, fun vs W => (vs 10) = ptr (bx (pg (vs 10))) ∧ Bx W 7 (pg (vs 10)) [.slice none 0 0, .slice none 0 0], fun vs W => (vs 10) = ptr (bx (pg (vs 10))) ∧ Bx W 7 (pg (vs 10)) [(vs 6), a]] [] mixed (by kernel_rfl) rfl zrZ.nil ?_
 intro d0 C
 have H := a7.n C
 have I := ((b1.up l3).up G).up C
 refine ⟨(zaT.cons ?_ (zaT.cons ?_ (zaT.cons ?_ (zaT.cons ?_ (zaT.cons ?_ (zaT.cons ?_ (zaT.cons ?_ (zaT.cons ?_ (zaT.cons ?_ (zaT.cons ?_ (zaT.cons ?_ (zaT.cons ?_ zaT.nil)))))))))))), (zda.cons (fun vs vs' W W' _ hv l hd h => by (show Ow W' 5 [] [(vs' 0)] ([] : List Commit)); rw [hv 0 (zaq rfl)]; exact h.upv l (zbi hd (c := 5) rfl)) (zda.cons (fun vs vs' W W' _ hv l hd h => by (show (vs' 1) = ptr ((bx f).add 0)); rw [hv 1 (zaq rfl)]; exact h) (zda.cons (fun vs vs' W W' _ hv l hd h => by (show (vs' 2) = y); rw [hv 2 (zaq rfl)]; exact h) (zda.cons (fun vs vs' W W' _ hv l hd h => by (show Ow (α := List (Sh Vm.Commit)) W' 5 [0] [(vs' 3)] B); rw [hv 3 (zaq rfl)]; exact h.up l (zj4 hd (K := [5, 0]) rfl)) (zda.cons (fun vs vs' W W' _ hv l hd h => by (show (vs' 4) = .agg [d, vS x2.Who, e].toArray); rw [hv 4 (zaq rfl)]; exact h) (zda.cons (fun vs vs' W W' _ hv l hd h => by (show (vs' 5) = .slice (some (bx (pg (vs' 5)))) 1 1 ∧ Bx W' 6 (pg (vs' 5)) [d, vS x2.Who, e]); rw [hv 5 (zaq rfl)]; exact ⟨h.1, h.2.up l (zbi hd (c := 6) rfl)⟩) (zda.cons (fun vs vs' W W' _ hv l hd h => by (show Ow (α := List (Sh Vm.Commit)) W' 5 [0] [(vs' 6)] i); rw [hv 6 (zaq rfl)]; exact h.up l (zj4 hd (K := [5, 0]) rfl)) (zda.cons (fun vs vs' W W' _ hv l hd h => by (show (vs' 7) = ptr ((bx f).add 1)); rw [hv 7 (zaq rfl)]; exact h) (zda.cons (fun vs vs' W W' _ hv l hd h => by (show (vs' 8) = a); rw [hv 8 (zaq rfl)]; exact h) (zda.cons (fun vs vs' W W' _ hv l hd h => by (show (vs' 9) = .agg [(vs' 6), a].toArray); rw [hv 6 (zaq rfl), hv 9 (zaq rfl)]; exact h) (zda.cons (fun vs vs' W W' _ hv l hd h => by (show (vs' 10) = ptr (bx (pg (vs' 10))) ∧ Bx W' 7 (pg (vs' 10)) [.slice none 0 0, .slice none 0 0]); rw [hv 10 (zaq rfl)]; exact ⟨h.1, h.2.up l (zbi hd (c := 7) rfl)⟩) (zda.cons (fun vs vs' W W' _ hv l hd h => by (show (vs' 10) = ptr (bx (pg (vs' 10))) ∧ Bx W' 7 (pg (vs' 10)) [(vs' 6), a]); rw [hv 6 (zaq rfl), hv 10 (zaq rfl)]; exact ⟨h.1, h.2.up l (zbi hd (c := 7) rfl)⟩) zda.nil)))))))))))), ?_⟩
 ·intro vs W lW hN
  obtain ⟨d1, bq⟩ : ∃ X, X = W := ⟨W, rfl⟩
  subst bq
  refine Tr.mono (T.lit0 (α := Commit) 5 []) ?_
  rintro br _ ⟨an, rfl, bu, bv⟩
  exact ⟨an, rfl, bu, (show Ow an 5 [] [br] ([] : List Commit) from bv)⟩
 ·intro vs W lW hN
  obtain ⟨bw, bz⟩ : ∃ X, X = W := ⟨W, rfl⟩
  subst bz
  refine Tr.mono (Run.tr (R.fa rfl)) ?_
  rintro _ _ ⟨hu, rfl⟩
  obtain rfl := hu.symm
  exact ⟨bw, rfl, Le.refl _ _, (show (ptr ((bx f).add 0) : Value) = ptr ((bx f).add 0) from rfl)⟩
 ·intro vs W lW hN
  obtain ⟨b0, b2⟩ : ∃ X, X = W := ⟨W, rfl⟩
  subst b2
  have J : vs 1 = ptr ((bx f).add 0) := (hN 1 (zaq rfl))
  obtain ⟨vs, rfl⟩ := zar J
  refine Tr.mono (Run.tr (R.ld (v := y) rfl rfl ((I.up lW rfl).cell rfl))) ?_
  rintro _ _ ⟨hu, rfl⟩
  obtain rfl := hu.symm
  exact ⟨b0, rfl, Le.refl _ _, (show (y : Value) = y from rfl)⟩
 ·intro vs W lW hN
  obtain ⟨b4, b5⟩ : ∃ X, X = W := ⟨W, rfl⟩
  subst b5
  have b7 := H.t lW rfl
  obtain ⟨b8, b9⟩ : ∃ v, vs 0 = v := ⟨_, rfl⟩
  obtain ⟨vs, rfl⟩ := zar b9
  have cb : Ow b4 5 [] [b8] ([] : List Commit) := (hN 0 (zaq rfl))
  have L : vs 2 = y := (hN 2 (zaq rfl))
  obtain ⟨vs, rfl⟩ := zar L
  obtain ⟨d2, cc, ao, cd⟩ := cb.toSh
  rw [← cc]
  have ce := b7.t ao
  refine Tr.mono (T.appS (α := Sh Vm.Commit) (K' := [0]) cd (aj.ul ce).shL rfl rfl bn) ?_
  rintro cf _ ⟨ap, rfl, cg, ch⟩
  exact ⟨ap, rfl, ((ao.sub (M := [5]) rfl).trans (cg.sub (M := [5]) rfl)), (show Ow (α := List (Sh Vm.Commit)) ap 5 [0] [cf] B from ch)⟩
 ·intro vs W lW hN
  obtain ⟨ci, cj⟩ : ∃ X, X = W := ⟨W, rfl⟩
  subst cj
  refine Tr.mono (Run.tr (R.lda (cs := [d, vS x2.Who, e]) (((b3.up G).up C).up lW rfl).cells rfl rfl)) ?_
  rintro _ _ ⟨hu, rfl⟩
  obtain rfl := hu.symm
  exact ⟨ci, rfl, Le.refl _ _, (show (.agg [d, vS x2.Who, e].toArray : Value) = .agg [d, vS x2.Who, e].toArray from rfl)⟩
 ·intro vs W lW hN
  obtain ⟨d3, ck⟩ : ∃ X, X = W := ⟨W, rfl⟩
  subst ck
  have N : vs 4 = .agg [d, vS x2.Who, e].toArray := (hN 4 (zaq rfl))
  obtain ⟨vs, rfl⟩ := zar N
  refine Tr.mono (T.bs 6 [.agg [d, vS x2.Who, e].toArray] (cs := [d, vS x2.Who, e]) rfl rfl (bsA rfl)) ?_
  rintro _ _ ⟨O, aq, rfl, rfl, cl, cm⟩
  exact ⟨aq, rfl, cl, (show (.slice (some (bx O)) 1 1 : Value) = .slice (some (bx O)) 1 1 ∧ Bx aq 6 O [d, vS x2.Who, e] from ⟨rfl, cm⟩)⟩
 ·intro vs W lW hN
  obtain ⟨ar, co⟩ : ∃ X, X = W := ⟨W, rfl⟩
  subst co
  have au := H.t lW rfl
  obtain ⟨cp, cq⟩ : ∃ v, vs 3 = v := ⟨_, rfl⟩
  obtain ⟨vs, rfl⟩ := zar cq
  have ct : Ow (α := List (Sh Vm.Commit)) ar 5 [0] [cp] B := (hN 3 (zaq rfl))
  obtain ⟨z, P⟩ : ∃ z, vs 5 = .slice (some (bx z)) 1 1 := ⟨_, ((hN 5 (zaq rfl))).1⟩
  obtain ⟨vs, rfl⟩ := zar P
  have cu : Bx ar 6 z [d, vS x2.Who, e] := (hN 5 (zaq rfl)).2
  refine Tr.mono (T.app1S (α := Sh Vm.Commit) (K' := [0]) ct cu (Commit.rd (K := [0]) x2.Parents x2.Who x2.Tree (bc.ul au) (be.ul au)).sh1 rfl rfl bp) ?_
  rintro cv _ ⟨av, rfl, cw, cx⟩
  exact ⟨av, rfl, cw, (show Ow (α := List (Sh Vm.Commit)) av 5 [0] [cv] i from cx)⟩
 ·intro vs W lW hN
  obtain ⟨cy, cz⟩ : ∃ X, X = W := ⟨W, rfl⟩
  subst cz
  refine Tr.mono (Run.tr (R.fa rfl)) ?_
  rintro _ _ ⟨hu, rfl⟩
  obtain rfl := hu.symm
  exact ⟨cy, rfl, Le.refl _ _, (show (ptr ((bx f).add 1) : Value) = ptr ((bx f).add 1) from rfl)⟩
 ·intro vs W lW hN
  obtain ⟨c0, c1⟩ : ∃ X, X = W := ⟨W, rfl⟩
  subst c1
  have Q : vs 7 = ptr ((bx f).add 1) := (hN 7 (zaq rfl))
  obtain ⟨vs, rfl⟩ := zar Q
  refine Tr.mono (Run.tr (R.ld (v := a) rfl rfl ((I.up lW rfl).cell rfl))) ?_
  rintro _ _ ⟨hu, rfl⟩
  obtain rfl := hu.symm
  exact ⟨c0, rfl, Le.refl _ _, (show (a : Value) = a from rfl)⟩
 ·intro vs W lW hN
  obtain ⟨aw, c2⟩ : ∃ X, X = W := ⟨W, rfl⟩
  subst c2
  obtain ⟨b, A⟩ : ∃ v, vs 6 = v := ⟨_, rfl⟩
  obtain ⟨vs, rfl⟩ := zar A
  have c3 : Ow (α := List (Sh Vm.Commit)) aw 5 [0] [b] i := (hN 6 (zaq rfl))
  have S : vs 8 = a := (hN 8 (zaq rfl))
  obtain ⟨vs, rfl⟩ := zar S
  refine Tr.mono (Run.tr (R.bd (zs := [.slice none 0 0, .slice none 0 0]) (cs := [b, a]) [(0, b), (1, a)] rfl rfl rfl (zaK c3.oc rfl (zaK F.oc rfl zdL)))) ?_
  rintro _ _ ⟨hu, rfl⟩
  obtain rfl := hu.symm
  exact ⟨aw, rfl, Le.refl _ _, (show (.agg [b, a].toArray : Value) = .agg [b, a].toArray from rfl)⟩
 ·intro vs W lW hN
  obtain ⟨d4, c4⟩ : ∃ X, X = W := ⟨W, rfl⟩
  subst c4
  refine Tr.mono (T.alloc 7 (cs := [.slice none 0 0, .slice none 0 0]) rfl) ?_
  rintro _ _ ⟨U, ax, rfl, rfl, c5, c6⟩
  exact ⟨ax, rfl, c5, (show (ptr (bx U) : Value) = ptr (bx U) ∧ Bx ax 7 U [.slice none 0 0, .slice none 0 0] from ⟨rfl, c6⟩)⟩
 ·intro vs W lW hN
  obtain ⟨ay, c7⟩ : ∃ X, X = W := ⟨W, rfl⟩
  subst c7
  obtain ⟨b, A⟩ : ∃ v, vs 6 = v := ⟨_, rfl⟩
  obtain ⟨vs, rfl⟩ := zar A
  have c8 : Ow (α := List (Sh Vm.Commit)) ay 5 [0] [b] i := (hN 6 (zaq rfl))
  have V : vs 9 = .agg [b, a].toArray := (hN 9 (zaq rfl))
  obtain ⟨vs, rfl⟩ := zar V
  obtain ⟨k, Y⟩ : ∃ k, vs 10 = ptr (bx k) := ⟨_, ((hN 10 (zaq rfl))).1⟩
  obtain ⟨vs, rfl⟩ := zar Y
  have c9 : Bx ay 7 k [.slice none 0 0, .slice none 0 0] := (hN 10 (zaq rfl)).2
  refine Tr.mono (T.sta (vs := [b, a]) c9 rfl rfl (zaa c8.oc (zaa F.oc zaF)) rfl rfl) ?_
  rintro _ _ ⟨az, rfl, da, db⟩
  exact ⟨az, rfl, da, (show (ptr (bx k)) = ptr (bx k) ∧ Bx az 7 k [b, a] from ⟨rfl, db⟩)⟩
 ·intro vs W lW hN
  obtain ⟨D, dc⟩ : ∃ X, X = W := ⟨W, rfl⟩
  subst dc
  have Z := H.t lW rfl
  obtain ⟨d5, hl174⟩ : ∃ x, x = lW := ⟨lW, rfl⟩
  have J : vs 1 = ptr ((bx f).add 0) := (hN 1 (zaq rfl))
  obtain ⟨vs, rfl⟩ := zar J
  have L : vs 2 = y := (hN 2 (zaq rfl))
  obtain ⟨vs, rfl⟩ := zar L
  have N : vs 4 = .agg [d, vS x2.Who, e].toArray := (hN 4 (zaq rfl))
  obtain ⟨vs, rfl⟩ := zar N
  obtain ⟨z, P⟩ : ∃ z, vs 5 = .slice (some (bx z)) 1 1 := ⟨_, ((hN 5 (zaq rfl))).1⟩
  obtain ⟨vs, rfl⟩ := zar P
  have d6 : Bx D 6 z [d, vS x2.Who, e] := (hN 5 (zaq rfl)).2
  obtain ⟨b, A⟩ : ∃ v, vs 6 = v := ⟨_, rfl⟩
  obtain ⟨vs, rfl⟩ := zar A
  have a0 : Ow (α := List (Sh Vm.Commit)) D 5 [0] [b] i := (hN 6 (zaq rfl))
  have Q : vs 7 = ptr ((bx f).add 1) := (hN 7 (zaq rfl))
  obtain ⟨vs, rfl⟩ := zar Q
  have S : vs 8 = a := (hN 8 (zaq rfl))
  obtain ⟨vs, rfl⟩ := zar S
  have V : vs 9 = .agg [b, a].toArray := (hN 9 (zaq rfl))
  obtain ⟨vs, rfl⟩ := zar V
  obtain ⟨k, Y⟩ : ∃ k, vs 10 = ptr (bx k) := ⟨_, (hN 11 (zaq rfl)).1⟩
  obtain ⟨vs, rfl⟩ := zar Y
  have dd : Bx D 7 k [b, a] := (hN 11 (zaq rfl)).2
  refine sr (Lw.r rfl (R.lda (cs := [b, a]) dd.cells rfl rfl) (ms rfl (fl (I.up lW rfl) rfl (Lw.ln x0.Commits (aj.ul Z) rfl ?_))))
  have de : Rd (α := List Vm.Commit) D [5, 0] [b] i := Ow.rdSh a0
  refine cr hm (fun _ => p60 (K := [0, 5]) (x0 := (Vm.Repo.mk i x0.Heads)) (Repo.rd (K := [0, 5]) i x0.Heads (de.sub (M := [0, 5]) rfl) ((F.ul Z).sub (M := [0, 5]) rfl))) ?_
  rintro a1 _ d7 hm aa ⟨a3, a5, rfl, df, dg⟩
  have a6 := df.sub (M := [0, 5]) rfl
  have a8 := dg.sub (M := [0, 5]) rfl
  have dh := Z.n aa
  refine sta (((b6.up C).up lW rfl).up aa) (zaa a6.oc (zaa a8.oc zaF)) fun d8 E di => ?_
  have dj := dh.t E
  refine nl ?_
  have dk := a6.up (E.sub (M := [4]) rfl) rfl
  have dl := a8.up (E.sub (M := [4]) rfl) rfl
  obtain ⟨ac, dm, a9, ae⟩ := zl7 _ 5
  have dn : Rd ac [0] [a3] a1.Commits := by rw [ae]; exact (dk.dye 5).sub (M := [0]) rfl
  have dp : Rd ac [0] [a5] a1.Heads := by rw [ae]; exact (dl.dye 5).sub (M := [0]) rfl
  have d9 : Rd (α := List Vm.Commit) ac [0] [b] i := by rw [ae]; exact (((a0.up aa).up E).rd.dye 5).sub (M := [0]) rfl
  have dq := dj.t a9
  cases hm
  rw [← dm]
  exact Cw.ret (zov rfl (di.up a9) (Res.mk dq ⟨a3, a5, rfl, dn, dp⟩))
theorem p123 {x0 d f x1 x2 h i r} (k : Rd W K [d, f] x0) (x : Rd W K [h, vS x2.Who, i] x2) (hm : Vm.zeL x0 x1 x2 = some r) : Q1 123 [.agg [d, f].toArray, vS x1, .agg [h, vS x2.Who, i].toArray] W [] fun W' v => ∃ a b, v = .agg [a, b].toArray ∧ Rd W' (0 :: K) [a] r.Commits ∧ Rd W' (0 :: K) [b] r.Heads :=
 (c123 (k.view _) (x.view _) hm).ad (fk 0) fun _ _ ⟨a, b, e, y, z⟩ => ⟨a, b, e, y.back rfl, z.back rfl⟩
end Go.Sx
