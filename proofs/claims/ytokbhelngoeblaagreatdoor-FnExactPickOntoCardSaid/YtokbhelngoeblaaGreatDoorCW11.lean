/- Walks: each function answers as its model, printed by a program of ours. Conditions: the arguments read as they are given. -/
import Derived.Test.YtokbhelngoeblaaGreatDoorCTs
import Derived.Test.YtokbhelngoeblaaGreatDoorCM4
import Derived.Test.YtokbhelngoeblaaGreatDoorCW1
import Derived.Test.YtokbhelngoeblaaGreatDoorCW2
import Derived.Test.YtokbhelngoeblaaGreatDoorCE
namespace Go.Sx
open Go Go.Proofs Go.Vm Rp
set_option linter.unusedVariables false
set_option linter.unusedSimpArgs false
variable {W W0 : CW} {K : List Nat}
theorem c88 {x0 k r} (x : Rd W0 [0] [k] x0) (hm : Vm.zdo x0 = some r) : Q0 88 [k] W0 fun Wf v => ∃ C, v = C ∧ OwS Wf LL [] [C] r := by
 unfold Vm.zdo at hm
 refine zau.of Tryz.func88 rfl rfl rfl rfl (sr (Nv (.slice none 0 0) rfl (sr (Nv (.slice none 0 0) rfl (ssr (mv k rfl (Lw.ln x0 x rfl (mi rfl (nl (Cw.block ?_))))))))))
 obtain ⟨N, O, hm⟩ := zbk hm
 refine Cw.loop 8 21 [3, 5, 8] (fun m l w => ∃ y e a D f, CW.w f = w ∧ Le [2, 3, 4] W0 f ∧ l = [a, D, vI e] ∧ Ow f 2 [] [a] y ∧ Vm.zdB x0 N m y e = some r) _ ⟨([] : List File), 0, .slice none 0 0, undef, W0, rfl, Le.refl _ _, rfl, owN 2 [], hm⟩ ?_
 rintro (_ | m8) _ _ σ ⟨y, e, a, D, f, rfl, E, rfl, F, hm⟩
 ·cases hm
 unfold Vm.zdB at hm
 have z := E.s
 refine sr (Lw.lt rfl (nl (Cw.seq (cn hm (fun hm => ?_) fun hm => ?_))))
 ·refine sk (Cw.seq (Cw.block (sr ?_)))
  obtain ⟨b, G, hm⟩ := ob hm
  refine Lw.r rfl (R.ix (α := File) (x.ul z) G rfl rfl rfl) ?_
  obtain ⟨x14, c15, _, r16⟩ := ((x.ul z).at_ G).cells
  obtain ⟨ai, rfl, r18⟩ := File.split r16
  refine Lw.r rfl (R.lda c15 rfl rfl) (al 3 [vS ([] : Str), .slice none 0 0] fun P aj A Q => ?_)
  have S := A.o
  refine sta Q (zaa rfl (zaa r18.oc zaF)) fun ak B H => ?_
  have U := S.t B
  refine nl (Cw.draw [2, 4] [(0, 0), (1, 0), (2, 1), (3, 0), (4, 1), (5, 2), (6, 0), (7, 2), (8, 2), (9, 0)] mixed (by kernel_rfl) fun am d => ?_)
  have V := U.n d
  refine Dv a rfl (Dfl (H.up d) rfl rfl rfl (Dfl (H.up d) rfl rfl rfl (Dc hm (Le.refl _ _) (fun _ => p144 (k0 := 4) (r18.ul V)) rfl ?_)))
  rintro W h an hm I ⟨_, rfl, K⟩ X
  refine Mw.p rfl rfl (fun _ => R.bd (zs := [vS ([] : Str), .slice none 0 0]) (cs := [vS b.Path, h]) [(0, vS b.Path), (1, h)] rfl rfl rfl (zaK rfl rfl (zaK K.oc rfl zdL))) (Mw.t rfl rfl (T.bs 5 [.agg [vS b.Path, h].toArray] (cs := [vS b.Path, h]) rfl rfl (bsA rfl)) ?_)
  rintro _ _ ⟨ao, ap, rfl, rfl, i, Y⟩
  refine mc X i fun Z => ?_
  obtain ⟨aa, ac, hm⟩ := ob hm
  refine Mw.t rfl rfl (T.app1 (α := File) (J := [4]) (K' := []) (((((F.up A).up B).up d).up I).up i) Y (File.own b.Path W (K.up i).s) rfl rfl ac) ?_
  rintro L _ ⟨ae, rfl, M, af⟩
  exact mc Z M fun aq => Hv L rfl (Mw.nil (rg (Lw.add rfl (mi rfl (nl ((agm) ⟨aa, w64 (e + 1), L, ptr (bx P), ae, rfl, ((((((E.j A).j B).j d).j I).j i).j M).w, rfl, af, hm⟩))))))
 ·refine Cw.exit ?_
  rw [O] at hm
  refine sr (mv a rfl (Nv a rfl ?_))
  cases hm
  exact Cw.ret (zjQ rfl (Res.mk z ⟨a, rfl, F.s.sub rfl rfl⟩))
theorem p88 {x0 b k0 r} (d : Rd W K [b] x0) (hm : Vm.zdo x0 = some r) : Q1 88 [b] W [] fun W' v => ∃ a, v = a ∧ Ow W' k0 [] [a] r :=
 (c88 (d.view _) hm).ad (fk k0) fun _ _ ⟨a, e, f⟩ => ⟨a, e, f.back (ziE _)⟩
theorem c67 {x0 Z aa r} (h0 : Rd W0 [0] [Z, aa] x0) (hm : Vm.zbc x0 = some r) : Q0 67 [.agg [Z, aa].toArray] W0 fun Wf v => ∃ ac ae, v = .agg [ac, ae].toArray ∧ OwS Wf [31] [] [ac] r.Commits ∧ OwS Wf [32] [] [ae] r.Heads := by
 unfold Vm.zbc at hm
 obtain ⟨cl, cm, af, H, az⟩ := Repo.split h0
 simp only [List.cons.injEq, and_true, true_and] at af
 obtain ⟨rfl, rfl⟩ := af
 refine zau.of Tryz.func67 rfl rfl rfl rfl (sr (bo 2 rfl fun g1 W1 l1 b1 => ?_))
 have a2 := l1.o
 refine al 3 [.slice none 0 0, .slice none 0 0] fun g3 W3 l3 b3 => ?_
 have a4 := a2.n l3
 refine nl (sr (Lw.t rfl (T.lit0 (α := Head) 4 []) ?_))
 rintro v6 _ ⟨W6, rfl, I, o6⟩
 have a7 := a4.n I
 have b8 := (b1.up l3).up I
 refine fl b8 rfl ?_
 obtain ⟨a9, ba, hm⟩ := ob hm
 refine Lw.t rfl (T.appP (α := Head) o6 (az.ul a7) rfl rfl ba) ?_
 rintro K _ ⟨cw, rfl, L, M⟩
 have bb := a7.t L
 refine Lw.r rfl (R.bd (zs := [.slice none 0 0, .slice none 0 0]) (cs := [.slice none 0 0, K]) [(1, K)] rfl rfl rfl (zaK M.oc rfl zdL)) (al 5 [.slice none 0 0, .slice none 0 0] fun bc cx i be => ?_)
 have bg := bb.n i
 refine sta be (zaa rfl (zaa (M.up i).oc zaF)) fun ak A bh => ?_
 have am := bg.t A
 refine nl (ssr (fl (((b8.up L).up i).up A) rfl (Lw.ln x0.Commits (H.ul am) rfl (mi rfl (nl (Cw.block ?_))))))
 obtain ⟨bi, bj, hm⟩ := zbk hm
 refine Cw.loop 14 33 [5, 14] (fun m l w => ∃ B N C an D k b, CW.w b = w ∧ Le [5, 6, 7, 8, 9] ak b ∧ l = [an, vI B] ∧ Ow b 6 [] [D] N ∧ Ow b 4 [] [k] C ∧ Bx b 5 bc [D, k] ∧ Vm.zdC x0 bi m B N C = some r) _ ⟨0, ([] : List Commit), a9, undef, .slice none 0 0, K, ak, rfl, Le.refl _ _, rfl, owN 6 [], ((M.up i).up A), bh, hm⟩ ?_
 rintro (_ | cy) _ _ σ ⟨B, N, C, an, D, k, b, rfl, O, rfl, P, Q, ao, hm⟩
 ·cases hm
 unfold Vm.zdC at hm
 have S := am.t O
 refine sr (Lw.lt rfl (nl (Cw.seq (cn hm (fun hm => ?_) fun hm => ?_))))
 ·refine sk (Cw.seq (Cw.block (sr ?_)))
  obtain ⟨x, ap, hm⟩ := ob hm
  refine Lw.r rfl (R.ix (α := Commit) (H.ul S) ap rfl rfl rfl) ?_
  obtain ⟨x47, c48, _, r49⟩ := ((H.ul S).at_ ap).cells
  obtain ⟨cz, c0, rfl, r51, r53⟩ := Commit.split r49
  refine Lw.r rfl (R.lda c48 rfl rfl) (al 7 [.slice none 0 0, vS ([] : Str), .slice none 0 0] fun bk c1 y bl => ?_)
  have bm := y.o
  refine sta bl (zaa r51.oc (zaa rfl (zaa r53.oc zaF))) fun c2 z bn => ?_
  have bp := bm.t z
  refine nl (Cw.draw [6, 8, 9] [(0, 0), (1, 1), (3, 0), (4, 1), (6, 0), (7, 1), (8, 0), (9, 1), (2, 2), (5, 2), (10, 2), (11, 0), (12, 2), (13, 2), (14, 0), (15, 3)] mixed (by kernel_rfl) fun c3 d => ?_)
  have bq := bp.n d
  have aq := ((ao.up y).up z).up d
  have U := bn.up d
  refine Dfl aq rfl rfl rfl (Dfl U rfl rfl rfl (Dfl U rfl rfl rfl (Dfl U rfl rfl rfl (Mw.t rfl rfl (T.lit0 (α := Int) 8 []) ?_))))
  rintro c4 _ ⟨c5, rfl, e, br⟩
  have ar := bq.n e
  refine m0 e fun bu => ?_
  obtain ⟨bv, bw, hm⟩ := ob hm
  refine Mw.t rfl rfl (T.appP (α := Int) br (r51.ul ar) rfl rfl bw) ?_
  rintro E _ ⟨c6, rfl, f, au⟩
  have bz := ar.t f
  refine mc bu f fun b0 => Dc hm b0 (fun _ => p88 (k0 := 9) (r53.ul bz)) rfl ?_
  rintro b2 F c7 hm h ⟨_, rfl, av⟩ b4
  refine Mw.p rfl rfl (fun _ => R.bd (zs := [.slice none 0 0, vS ([] : Str), .slice none 0 0]) (cs := [E, vS x.Who, F]) [(0, E), (1, vS x.Who), (2, F)] rfl rfl rfl (zaK (au.up h).oc rfl (zaK rfl rfl (zaK av.oc rfl zdL)))) (Mw.t rfl rfl (T.bs 10 [.agg [E, vS x.Who, F].toArray] (cs := [E, vS x.Who, F]) rfl rfl (bsA rfl)) ?_)
  rintro _ _ ⟨c8, c9, rfl, rfl, a, b5⟩
  refine mc b4 a fun b6 => ?_
  obtain ⟨b7, b9, hm⟩ := ob hm
  refine Mw.t rfl rfl (T.app1 (α := Commit) (J := [8, 9]) (K' := []) (((((((P.up y).up z).up d).up e).up f).up h).up a) b5 (Commit.own bv x.Who b2 ((au.up h).up a).s (av.up a).s) rfl rfl b9) ?_
  rintro aw _ ⟨da, rfl, G, ax⟩
  refine mc b6 G fun db => Df rfl (Mw.lu rfl (T.st (j := 0) (v := aw) (((((aq.up e).up f).up h).up a).up G) rfl rfl ax.oc rfl rfl) ?_)
  rintro _ _ ⟨cb, rfl, V, cc⟩
  exact Mw.nil (rg (Lw.add rfl (mi rfl (nl ((agm) ⟨w64 (B + 1), b7, C, ptr (bx bk), aw, k, cb, rfl, (((((((((O.j y).j z).j d).j e).j f).j h).j a).j G).j V).w, rfl, (ax.up V), (((((((((Q.up y).up z).up d).up e).up f).up h).up a).up G).up V), cc, hm⟩)))))
 ·refine Cw.exit ?_
  rw [bj] at hm
  refine sr (la ao (sta (((((b3.up I).up L).up i).up A).up O) (zaa P.oc (zaa Q.oc zaF)) fun dc W cd => ?_))
  have ce := S.t W
  refine nl ?_
  obtain ⟨dd, cf, X, cg⟩ := (P.up W).dyeO 31
  have ch := ce.t X
  obtain ⟨de, ci, Y, cj⟩ := ((Q.up W).up X).dyeO 32
  have ck := ch.t Y
  cases hm
  rw [← ci.trans (cf)]
  exact Cw.ret (zov rfl ((cd.up X).up Y) (Res.mk ck ⟨D, k, rfl, (cg.up Y).s, cj.s⟩))
theorem p67 {x0 d f k0 k1 r} (h : Rd W K [d, f] x0) (hm : Vm.zbc x0 = some r) : Q1 67 [.agg [d, f].toArray] W [] fun W' v => ∃ a b, v = .agg [a, b].toArray ∧ Ow W' k0 [] [a] r.Commits ∧ Ow W' k1 [] [b] r.Heads :=
 zau.adJ (J := []) (fun c => bif Nat.beq c 0 then 0 else bif Nat.beq c 31 then k0 else bif Nat.beq c 32 then k1 else 0) (c67 (h.view _) hm) fun _ _ ⟨a, b, e, i, k⟩ => ⟨a, b, e, i.one1.backN rfl, k.one1.backN rfl⟩
theorem c126 {x0 d x1 r} (i : Rd W0 [0] [d] x0) (h1 : Rd W0 [0] [vS x1.Name, vI x1.At] x1) (hm : Vm.zfz x0 x1 = some r) : Q0 126 [d, .agg [vS x1.Name, vI x1.At].toArray] W0 fun Wf v => ∃ P, v = P ∧ OwS Wf LL [] [P] r := by
 unfold Vm.zfz at hm
 refine zau.of Tryz.func126 rfl rfl rfl rfl (sr (bo 2 rfl fun g1 Q l1 S => ?_))
 have U := l1.o
 refine Nv (.slice none 0 0) rfl (sr (mv d rfl (Lw.ln x0 (i.ul U) rfl (Ni rfl (Cw.seq (Cw.block ?_))))))
 obtain ⟨K6, ao, hm⟩ := zbk hm
 refine Cw.loop 8 22 [5] (fun m l w => ∃ b y, CW.w y = w ∧ Le [] Q y ∧ l = [vI b] ∧ Vm.zd0 x0 x1 K6 m b = some r) _ ⟨(x0.length : Int), Q, rfl, Le.refl _ _, rfl, hm⟩ ?_
 rintro (_ | m7) _ _ σ ⟨b, y, rfl, z, rfl, hm⟩
 ·cases hm
 unfold Vm.zd0 at hm
 have V := U.n z
 refine Cw.seq ?_
 obtain ⟨ap, aq, hm⟩ := zbk hm
 refine Cw.join 8 20 [20] (fun l w => ∃ E A, CW.w A = w ∧ Le [] y A ∧ l = [vB E] ∧ ap E = some r) ?_ ?_
 ·rintro _ _ σ ⟨E, A, rfl, F, rfl, hm⟩
  rw [aq] at hm
  have ar := V.n F
  refine cn hm (fun hm => ?_) fun hm => ?_
  ·exact sk (Cw.block (rg (mi rfl (Lw.sub rfl (Ni rfl ((agm) ⟨w64 (b - 1), A, rfl, (z.j F).w, rfl, hm⟩))))))
  ·refine Cw.exit ?_
   rw [ao] at hm
   refine Cw.seq ?_
   obtain ⟨B, au, hm⟩ := ob hm
   obtain ⟨k, av, hm⟩ := ob hm
   refine Cw.par [[], [], [0, 1], [], [], [4], [0, 1, 2, 3, 4, 5], [0, 1, 2, 3, 4, 5, 6]] [[], [], [0, 1], [], [], [4], [2, 3, 5], [6]] [[], [], [3], [], [], [], [3], []] [[0], [1], [2], [3], [4], [5], [6], [6, 7]] [[3], [], [3], [], [], [4], [5], []] [1, 3, 4, 5, 6, 7] [3] [fun vs W => Ow W 3 [] [(vs 0)] ([] : List Head), fun vs W => (vs 1) = d, fun vs W => Ow W 3 [] [(vs 2)] B, fun vs W => (vs 3) = vI b, fun vs W => (vs 4) = .agg [vS x1.Name, vI x1.At].toArray, fun vs W => (vs 5) = .slice (some (bx (pg (vs 5)))) 1 1 ∧ Bx W 4 (pg (vs 5)) [vS x1.Name, vI x1.At], fun vs W => Ow W 5 [] [(vs 6)] k, fun vs W => (vs 7) = (vs 6)] [] mixed (by kernel_rfl) rfl zrZ.nil ?_
   intro b8 Y
   have Z := ar.n Y
   refine ⟨(zaT.cons ?_ (zaT.cons ?_ (zaT.cons ?_ (zaT.cons ?_ (zaT.cons ?_ (zaT.cons ?_ (zaT.cons ?_ (zaT.cons ?_ zaT.nil)))))))), (zda.cons (fun vs vs' W W' _ hv l hd h => by (show Ow W' 3 [] [(vs' 0)] ([] : List Head)); rw [hv 0 (zaq rfl)]; exact h.upv l (zbi hd (c := 3) rfl)) (zda.cons (fun vs vs' W W' _ hv l hd h => by (show (vs' 1) = d); rw [hv 1 (zaq rfl)]; exact h) (zda.cons (fun vs vs' W W' _ hv l hd h => by (show Ow W' 3 [] [(vs' 2)] B); rw [hv 2 (zaq rfl)]; exact h.upv l (zbi hd (c := 3) rfl)) (zda.cons (fun vs vs' W W' _ hv l hd h => by (show (vs' 3) = vI b); rw [hv 3 (zaq rfl)]; exact h) (zda.cons (fun vs vs' W W' _ hv l hd h => by (show (vs' 4) = .agg [vS x1.Name, vI x1.At].toArray); rw [hv 4 (zaq rfl)]; exact h) (zda.cons (fun vs vs' W W' _ hv l hd h => by (show (vs' 5) = .slice (some (bx (pg (vs' 5)))) 1 1 ∧ Bx W' 4 (pg (vs' 5)) [vS x1.Name, vI x1.At]); rw [hv 5 (zaq rfl)]; exact ⟨h.1, h.2.up l (zbi hd (c := 4) rfl)⟩) (zda.cons (fun vs vs' W W' _ hv l hd h => by (show Ow W' 5 [] [(vs' 6)] k); rw [hv 6 (zaq rfl)]; exact h.upv l (zbi hd (c := 5) rfl)) (zda.cons (fun vs vs' W W' _ hv l hd h => by (show (vs' 7) = (vs' 6)); rw [hv 6 (zaq rfl), hv 7 (zaq rfl)]; exact h) zda.nil)))))))), ?_⟩
   ·intro vs W lW hN
    obtain ⟨b9, aw⟩ : ∃ X, X = W := ⟨W, rfl⟩
    subst aw
    refine Tr.mono (T.lit0 (α := Head) 3 []) ?_
    rintro ax _ ⟨aa, rfl, ay, az⟩
    exact ⟨aa, rfl, ay, (show Ow aa 3 [] [ax] ([] : List Head) from az)⟩
   ·intro vs W lW hN
    obtain ⟨a0, a1⟩ : ∃ X, X = W := ⟨W, rfl⟩
    subst a1
    refine Tr.mono (Run.tr (R.mv (v := d) rfl)) ?_
    rintro _ _ ⟨hu, rfl⟩
    obtain rfl := hu.symm
    exact ⟨a0, rfl, Le.refl _ _, (show (d : Value) = d from rfl)⟩
   ·intro vs W lW hN
    obtain ⟨a3, a4⟩ : ∃ X, X = W := ⟨W, rfl⟩
    subst a4
    have a5 := Z.t lW rfl
    obtain ⟨a6, a7⟩ : ∃ v, vs 0 = v := ⟨_, rfl⟩
    obtain ⟨vs, rfl⟩ := zar a7
    have a9 : Ow a3 3 [] [a6] ([] : List Head) := (hN 0 (zaq rfl))
    have G : vs 1 = d := (hN 1 (zaq rfl))
    obtain ⟨vs, rfl⟩ := zar G
    refine Tr.mono (T.appP (α := Head) a9 (i.ul a5) rfl rfl au) ?_
    rintro ba _ ⟨ac, rfl, bb, bc⟩
    exact ⟨ac, rfl, bb, (show Ow ac 3 [] [ba] B from bc)⟩
   ·intro vs W lW hN
    obtain ⟨be, bg⟩ : ∃ X, X = W := ⟨W, rfl⟩
    subst bg
    refine Tr.mono (Run.tr (R.mv (v := vI b) rfl)) ?_
    rintro _ _ ⟨hu, rfl⟩
    obtain rfl := hu.symm
    exact ⟨be, rfl, Le.refl _ _, (show (vI b : Value) = vI b from rfl)⟩
   ·intro vs W lW hN
    obtain ⟨bh, bi⟩ : ∃ X, X = W := ⟨W, rfl⟩
    subst bi
    refine Tr.mono (Run.tr (R.lda (cs := [vS x1.Name, vI x1.At]) ((((S.up z).up F).up Y).up lW rfl).cells rfl rfl)) ?_
    rintro _ _ ⟨hu, rfl⟩
    obtain rfl := hu.symm
    exact ⟨bh, rfl, Le.refl _ _, (show (.agg [vS x1.Name, vI x1.At].toArray : Value) = .agg [vS x1.Name, vI x1.At].toArray from rfl)⟩
   ·intro vs W lW hN
    obtain ⟨cb, bj⟩ : ∃ X, X = W := ⟨W, rfl⟩
    subst bj
    have H : vs 4 = .agg [vS x1.Name, vI x1.At].toArray := (hN 4 (zaq rfl))
    obtain ⟨vs, rfl⟩ := zar H
    refine Tr.mono (T.bs 4 [.agg [vS x1.Name, vI x1.At].toArray] (cs := [vS x1.Name, vI x1.At]) rfl rfl (bsA rfl)) ?_
    rintro _ _ ⟨I, ae, rfl, rfl, bk, bl⟩
    exact ⟨ae, rfl, bk, (show (.slice (some (bx I)) 1 1 : Value) = .slice (some (bx I)) 1 1 ∧ Bx ae 4 I [vS x1.Name, vI x1.At] from ⟨rfl, bl⟩)⟩
   ·intro vs W lW hN
    obtain ⟨af, bm⟩ : ∃ X, X = W := ⟨W, rfl⟩
    subst bm
    obtain ⟨bn, bp⟩ : ∃ v, vs 2 = v := ⟨_, rfl⟩
    obtain ⟨vs, rfl⟩ := zar bp
    have bq : Ow af 3 [] [bn] B := (hN 2 (zaq rfl))
    have J : vs 3 = vI b := (hN 3 (zaq rfl))
    obtain ⟨vs, rfl⟩ := zar J
    obtain ⟨f, L⟩ : ∃ f, vs 5 = .slice (some (bx f)) 1 1 := ⟨_, ((hN 5 (zaq rfl))).1⟩
    obtain ⟨vs, rfl⟩ := zar L
    have br : Bx af 4 f [vS x1.Name, vI x1.At] := (hN 5 (zaq rfl)).2
    refine Tr.mono (T.call rfl (p170 (k0 := 5) (c0 := 3) bq br (Head.rd (K := [0]) x1.Name x1.At ) rfl rfl av)) ?_
    rintro bu _ ⟨ah, rfl, bv, ⟨_, rfl, bw⟩⟩
    exact ⟨ah, rfl, bv, (show Ow ah 5 [] [bu] k from bw)⟩
   ·intro vs W lW hN
    obtain ⟨ai, bz⟩ : ∃ X, X = W := ⟨W, rfl⟩
    subst bz
    obtain ⟨e, M⟩ : ∃ v, vs 6 = v := ⟨_, rfl⟩
    obtain ⟨vs, rfl⟩ := zar M
    have cc : Ow ai 5 [] [e] k := (hN 6 (zaq rfl))
    refine Tr.mono (Run.tr (R.as (v := e) rfl)) ?_
    rintro _ _ ⟨hu, rfl⟩
    obtain rfl := hu.symm
    exact ⟨ai, rfl, Le.refl _ _, (show (e : Value) = e from rfl)⟩
   ·intro vs W lW hN
    obtain ⟨aj, b0⟩ : ∃ X, X = W := ⟨W, rfl⟩
    subst b0
    have b2 := Z.t lW rfl
    obtain ⟨cd, hl83⟩ : ∃ x, x = lW := ⟨lW, rfl⟩
    have G : vs 1 = d := (hN 1 (zaq rfl))
    obtain ⟨vs, rfl⟩ := zar G
    have J : vs 3 = vI b := (hN 3 (zaq rfl))
    obtain ⟨vs, rfl⟩ := zar J
    have H : vs 4 = .agg [vS x1.Name, vI x1.At].toArray := (hN 4 (zaq rfl))
    obtain ⟨vs, rfl⟩ := zar H
    obtain ⟨f, L⟩ : ∃ f, vs 5 = .slice (some (bx f)) 1 1 := ⟨_, ((hN 5 (zaq rfl))).1⟩
    obtain ⟨vs, rfl⟩ := zar L
    have ce : Bx aj 4 f [vS x1.Name, vI x1.At] := (hN 5 (zaq rfl)).2
    obtain ⟨e, M⟩ : ∃ v, vs 6 = v := ⟨_, rfl⟩
    obtain ⟨vs, rfl⟩ := zar M
    have b3 : Ow aj 5 [] [e] k := (hN 6 (zaq rfl))
    have b4 : vs 7 = e := (hN 7 (zaq rfl))
    obtain ⟨vs, rfl⟩ := zar b4
    cases hm
    exact Cw.ret (zjQ rfl (Res.mk b2 ⟨e, rfl, b3.s.sub rfl rfl⟩))
 ·refine Cw.draw [] [(0, 0), (1, 0), (2, 0), (3, 0), (4, 0), (5, 0), (6, 0), (7, 0), (8, 1), (9, 0), (10, 1), (11, 0), (12, 0)] mixed (by kernel_rfl) fun ak C => ?_
  have N := V.n C
  refine Di rfl (Mw.p rfl rfl (fun _ => R.gt rfl rfl) (Db rfl (bs hm (fun a hm => ?_) fun a hm => ?_)))
  ·refine Wp a rfl (fun _ => R.mv (v := d) rfl) (Wp a rfl (fun _ => R.mv (v := vI b) rfl) (Wp a rfl (fun _ => R.sub rfl rfl) ?_))
   obtain ⟨D, O, hm⟩ := ob hm
   exact Wp a rfl (fun _ => R.ix (α := Head) (i.ul N) O rfl rfl rfl) (Wp a rfl (fun _ => R.fa rfl) (Wq a rfl (fun _ c => R.ld rfl rfl (zaz (Head.at0 ((i.ul N).at_ O)).1 rfl (Head.at0 ((i.ul N).at_ O)).str c)) (Wp a rfl (fun _ => R.fa rfl) (Wq a rfl (fun _ c => R.ld (v := vS x1.Name) rfl rfl (((S.up z).up C).clc rfl rfl c)) (Wp a rfl (fun _ => R.sgt rfl rfl) (Mw.p rfl rfl (fun _ => R.pk a rfl (v := vB (!(Op.bytesLess D.Name x1.Name || D.Name == x1.Name))) rfl) (Mw.nil ((ag) ⟨(!(Op.bytesLess D.Name x1.Name || D.Name == x1.Name)), ak, rfl, C, rfl, hm⟩))))))))
  ·exact dps 9 a rfl (Mw.p rfl rfl (fun _ => R.pk a rfl (v := vB false) rfl) (Mw.nil ((ag) ⟨false, ak, rfl, C, rfl, hm⟩)))
theorem p126 {x0 b x1 k0 r} (d : Rd W K [b] x0) (f : Rd W K [vS x1.Name, vI x1.At] x1) (hm : Vm.zfz x0 x1 = some r) : Q1 126 [b, .agg [vS x1.Name, vI x1.At].toArray] W [] fun W' v => ∃ a, v = a ∧ Ow W' k0 [] [a] r :=
 (c126 (d.view _) (f.view _) hm).ad (fk k0) fun _ _ ⟨a, e, h⟩ => ⟨a, e, h.back (ziE _)⟩
theorem c68 {x0 k x x1 x2 r} (aj : Ow W0 2 [] [k] x0.Commits) (ak : Ow W0 3 [] [x] x0.Heads) (hm : Vm.zbx x0 x1 x2 = some r) : Q0 68 [.agg [k, x].toArray, vS x1, vI x2] W0 fun Wf v => ∃ U V, v = .agg [U, V].toArray ∧ OwS Wf [31] [] [U] r.Commits ∧ OwS Wf [32] [] [V] r.Heads := by
 unfold Vm.zbx at hm
 refine zau.of Tryz.func68 rfl rfl rfl rfl (sr (bo 4 rfl fun g1 W1 F W => ?_))
 have a2 := F.o
 refine al 5 [.slice none 0 0, .slice none 0 0] fun g5 X d b5 => ?_
 have a6 := a2.n d
 have Y := (ak.up F).up d
 refine nl (ssr (fl (W.up d) rfl (Lw.ln x0.Heads Y.rd rfl (mi rfl (nl (Cw.block ?_))))))
 obtain ⟨aq, ar, hm⟩ := zbk hm
 refine Cw.loop 11 29 [7, 11] (fun m l w => ∃ e y z A Z B C a, CW.w a = w ∧ Le [] X a ∧ l = [Z, vI e] ∧ Ow a 6 [] [B] y ∧ Ow a 7 [] [C] z ∧ Bx a 5 g5 [B, C] ∧ Ow a 3 [] [x] A ∧ Vm.zbq x0 x1 x2 aq m e y z A = some r) _ ⟨0, ([] : List Commit), ([] : List Head), x0.Heads, undef, .slice none 0 0, .slice none 0 0, X, rfl, Le.refl _ _, rfl, owN 6 [], owN 7 [], b5, Y, hm⟩ ?_
 rintro (_ | bn) _ _ σ ⟨e, y, z, A, Z, B, C, a, rfl, D, rfl, au, av, G, b, hm⟩
 ·cases hm
 unfold Vm.zbq at hm
 have aa := a6.n D
 have H := ((aj.up F).up d).up D
 have f := (W.up d).up D
 refine sr (Lw.lt rfl (nl (Cw.seq (cn hm (fun hm => ?_) fun hm => ?_))))
 ·refine sk (Cw.seq (Cw.block (sr (mi rfl (Ni rfl (sr (fl f rfl (mi rfl ?_))))))))
  obtain ⟨bp, ac, hm⟩ := ob hm
  refine Lw.r rfl (R.ix (α := Head) b.rd ac rfl rfl rfl) (Lw.fa rfl (Lw.r rfl (R.ld rfl rfl (Head.at0 (b.rd.at_ ac)).str) (ms rfl (Lw.seq rfl (nl (cn hm (fun hm => ?_) fun hm => ?_))))))
  ·refine sr (fl f rfl (mi rfl (mi rfl ?_)))
   obtain ⟨bq, ae, hm⟩ := ob hm
   refine Lw.r rfl (R.ix (α := Head) b.rd ae rfl rfl rfl) (Lw.fa rfl ?_)
   obtain ⟨br, aw, hm⟩ := ob hm
   refine Lw.u (T.stH (α := Head) (β := Int) (J := []) (Ow.hole (α := Head) (β := Int) (jf := 1) b ae) (OwS.atm (K := []) (rdI _)) aw rfl rfl rfl rfl) ?_
   rintro _ _ ⟨bu, rfl, h, af⟩
   have ax := aa.t h
   refine nl (sr (la (f.up h) (sta (G.up h) (zaa (H.up h).oc (zaa af.oc zaF)) fun bv I ay => ?_)))
   have az := ax.t I
   refine nl ?_
   obtain ⟨bw, a0, L, a1⟩ := ((H.up h).up I).dyeO 31
   have a3 := az.t L
   obtain ⟨bz, a4, N, a5⟩ := ((af.up I).up L).dyeO 32
   have a7 := a3.t N
   cases hm
   rw [← a4.trans (a0)]
   exact Cw.ret (zov rfl ((ay.up L).up N) (Res.mk a7 ⟨k, x, rfl, (a1.up N).s, a5.s⟩))
  ·exact sk (rg (Lw.add rfl (mi rfl (nl ((agm) ⟨w64 (e + 1), y, z, A, vI e, B, C, a, rfl, D, rfl, au, av, G, b, hm⟩)))))
 ·refine Cw.exit ?_
  rw [ar] at hm
  refine sr (fl f rfl (ms rfl (mi rfl (Lw.r rfl (R.bd (zs := [vS ([] : Str), vI 0]) (cs := [vS x1, vI x2]) [(0, vS x1), (1, vI x2)] rfl rfl rfl (zaK rfl rfl (zaK rfl rfl zdL))) (cr hm (fun _ => p126 (K := [0, 3]) (k0 := 8) (x1 := (Vm.Head.mk x1 x2)) (b.rd.sub (M := [0, 3]) rfl) ((Head.rd (K := [0]) x1 x2 ).sub (M := [0, 3]) rfl)) ?_)))))
  rintro b0 ah b2 hm E ⟨_, rfl, O⟩
  have a8 := aa.n E
  refine Lw.fa rfl (Lw.u (T.st (j := 1) (v := ah) (f.up E) rfl rfl O.oc rfl rfl) ?_)
  rintro _ _ ⟨b3, rfl, i, a9⟩
  have ba := a8.t i
  have ai := (H.up E).up i
  refine nl (sr (la a9 (sta ((G.up E).up i) (zaa ai.oc (zaa (O.up i).oc zaF)) fun b4 P bb => ?_)))
  have bc := ba.t P
  refine nl ?_
  obtain ⟨b6, be, Q, bg⟩ := (ai.up P).dyeO 31
  have bh := bc.t Q
  obtain ⟨b7, bi, S, bj⟩ := (((O.up i).up P).up Q).dyeO 32
  have bk := bh.t S
  cases hm
  rw [← bi.trans (be)]
  exact Cw.ret (zov rfl ((bb.up Q).up S) (Res.mk bk ⟨k, ah, rfl, (bg.up S).s, bj.s⟩))
theorem p68 {x0 d f x1 x2 k0 k1 c0 c1 r} (h : Ow W c0 [] [d] x0.Commits) (i : Ow W c1 [] [f] x0.Heads) (hJ : okJ K [c0, c1] = true) (hm : Vm.zbx x0 x1 x2 = some r) : Q1 68 [.agg [d, f].toArray, vS x1, vI x2] W [c0, c1] fun W' v => ∃ a b, v = .agg [a, b].toArray ∧ Ow W' k0 [] [a] r.Commits ∧ Ow W' k1 [] [b] r.Heads :=
 zau.adJ (J := [c0, c1]) (fun c => bif Nat.beq c 0 then 0 else bif Nat.beq c 2 then c0 else bif Nat.beq c 3 then c1 else bif Nat.beq c 31 then k0 else bif Nat.beq c 32 then k1 else 0) (c68 (h.viewJ 0 hJ) (i.viewJ 1 hJ) hm) fun _ _ ⟨a, b, e, k, x⟩ => ⟨a, b, e, k.one1.backN rfl, x.one1.backN rfl⟩
theorem c115 {x0 e x1 f x2 h r} (B : Rd W0 [0] [e] x0) (C : Rd W0 [0] [f] x1) (D : Rd W0 [0] [h] x2) (i : Gl 0 W0 [0]) (hm : Vm.zgi x0 x1 x2 = some r) : Q0 115 [e, f, h] W0 fun Wf v => v = vB r := by
 unfold Vm.zgi at hm
 refine zau.of Tryz.func115 rfl rfl rfl rfl (sr (Nb rfl ?_))
 obtain ⟨E, F, hm⟩ := zbk hm
 refine Cw.join 7 16 [6] (fun l w => ∃ k x, CW.w x = w ∧ Le [] W0 x ∧ l = [vB k] ∧ E k = some r) ?_ ?_
 ·rintro _ _ σ ⟨k, x, rfl, G, rfl, hm⟩
  rw [F] at hm
  have H := G.o
  exact .ret (rt hm H)
 ·refine rg (mv e rfl (ca hm (fun _ => p85 B i) fun N I hm d => ?_))
  have y := d.o
  refine mb rfl (bs hm (fun a hm => ?_) fun a hm => ?_)
  ·refine wak 2 a (mv f rfl (ca hm (fun _ => p85 (C.ul y) (i.ul y)) fun O J hm z => ?_))
   have A := y.n z
   refine Pb a rfl (mb rfl (bs hm (fun b hm => ?_) fun b hm => ?_))
   ·exact wak 2 b (mv h rfl (ca hm (fun _ => p85 (D.ul A) (i.ul A)) fun K L hm M => Pb b rfl (Nb rfl ((ag) ⟨K, L, rfl, ((d.j z).j M).w, rfl, hm⟩))))
   ·exact psk 2 b rfl (Pb b rfl (Nb rfl ((ag) ⟨false, J, rfl, (d.j z).w, rfl, hm⟩)))
  ·exact psk 2 a rfl (Pb a rfl (mb rfl (psk 2 rfl rfl (Pb rfl rfl (Nb rfl ((ag) ⟨false, I, rfl, d, rfl, hm⟩))))))
theorem p115 {x0 a x1 b x2 d r} (f : Rd W K [a] x0) (h : Rd W K [b] x1) (i : Rd W K [d] x2) (k : Gl 0 W K) (hm : Vm.zgi x0 x1 x2 = some r) : Q1 115 [a, b, d] W [] fun W' v => v = vB r :=
 (c115 (f.view _) (h.view _) (i.view _) (k.view _) hm).ad (fk 0) fun _ _ e => e
theorem c161 {x0 x r} (y : Rd W0 [0] [x] x0) (hm : Vm.zhg x0 = some r) : Q0 161 [x] W0 fun Wf v => ∃ E, v = E ∧ OwS Wf LL [] [E] r := by
 unfold Vm.zhg at hm
 refine zau.of Tryz.func161 rfl rfl rfl rfl (sr (Nv (.slice none 0 0) rfl (sr (Nv (.slice none 0 0) rfl (ssr (mv x rfl (Lw.ln x0 y rfl (mi rfl (nl (Cw.block ?_))))))))))
 obtain ⟨W, X, hm⟩ := zbk hm
 refine Cw.loop 10 26 [3, 5, 7, 10] (fun m l w => ∃ f h a F z b, CW.w b = w ∧ Le [2, 3] W0 b ∧ l = [a, F, z, vI h] ∧ Ow b 2 [] [a] f ∧ Vm.zbN x0 W m f h = some r) _ ⟨([] : List Str), 0, .slice none 0 0, undef, undef, W0, rfl, Le.refl _ _, rfl, owN 2 [], hm⟩ ?_
 rintro (_ | m9) _ _ σ ⟨f, h, a, F, z, b, rfl, G, rfl, H, hm⟩
 ·cases hm
 unfold Vm.zbN at hm
 have A := G.s
 refine sr (Lw.lt rfl (nl (Cw.seq (cn hm (fun hm => ?_) fun hm => ?_))))
 ·refine sk (Cw.seq (Cw.block (sr ?_)))
  obtain ⟨I, J, hm⟩ := ob hm
  refine Lw.r rfl (R.ix (α := List File) (y.ul A) J rfl rfl rfl) ?_
  obtain ⟨B, c16, r17⟩ := ((y.ul A).at_ J).cell rfl
  refine Lw.r rfl (R.ld rfl rfl c16) (Nv B rfl (sr (mv B rfl (Lw.ln I r17 rfl (mi rfl (nl (Cw.block ?_)))))))
  obtain ⟨Y, Z, hm⟩ := zbk hm
  refine Cw.loop 16 25 [3, 7, 16] (fun m l w => ∃ i k d C e, CW.w e = w ∧ Le [2, 3] b e ∧ l = [d, C, vI k] ∧ Ow e 2 [] [d] i ∧ Vm.zdD I Y m i k = some r) _ ⟨f, 0, a, z, b, rfl, Le.refl _ _, rfl, H, hm⟩ ?_
  rintro (_ | aw) _ _ σ ⟨i, k, d, C, e, rfl, D, rfl, L, hm⟩
  ·cases hm
  unfold Vm.zdD at hm
  have M := D.s
  refine sr (Lw.lt rfl (nl (Cw.seq (cn hm (fun hm => ?_) fun hm => ?_))))
  ·refine sk (Cw.seq (Cw.block (sr ?_)))
   obtain ⟨N, O, hm⟩ := ob hm
   refine Lw.r rfl (R.ix (α := File) (r17.ul M) O rfl rfl rfl) ?_
   obtain ⟨x31, c32, _, r33⟩ := ((r17.ul M).at_ O).cells
   obtain ⟨ax, rfl, r35⟩ := File.split r33
   refine Lw.r rfl (R.lda c32 rfl rfl) (al 3 [vS ([] : Str), .slice none 0 0] fun aa ay P ac => sta ac (zaa rfl (zaa r35.oc zaF)) fun az Q ae => nl (rg (mv d rfl (fl ae rfl (Lw.t rfl (T.bs 4 [vS N.Path] (cs := [vS N.Path]) rfl rfl (bsv rfl)) ?_)))))
   rintro _ _ ⟨a0, a1, rfl, rfl, S, af⟩
   obtain ⟨ah, ai, hm⟩ := ob hm
   refine Lw.t rfl (T.app1S (α := Str) (K' := []) (((L.up P).up Q).up S) af (rdS _) rfl rfl ai) ?_
   rintro U _ ⟨aj, rfl, ak, am⟩
   exact Nv U rfl (rg (Lw.add rfl (mi rfl (nl ((agm) ⟨ah, w64 (k + 1), U, ptr (bx aa), aj, rfl, ((((D.j P).j Q).j S).j ak).w, rfl, am, hm⟩)))))
  ·refine Cw.exit ?_
   rw [Z] at hm
   exact rg (Lw.add rfl (mi rfl (nl ((agm) ⟨i, w64 (h + 1), d, B, C, e, rfl, (G.j D).w, rfl, L, hm⟩))))
 ·refine Cw.exit ?_
  rw [X] at hm
  refine sr (mv a rfl (cr hm (fun _ => p150 (K := [0]) (c0 := 2) H rfl) ?_))
  rintro a2 _ a3 hm an ⟨rfl, ao⟩
  have ap := A.t an
  refine nl (sr (mv a rfl (cr hm (fun _ => p155 (K := [0]) (k0 := 5) (c0 := 2) ao rfl) ?_)))
  rintro a4 V a5 hm aq ⟨_, rfl, ar⟩
  have au := ap.t aq
  refine Nv V rfl ?_
  cases hm
  exact Cw.ret (zjQ rfl (Res.mk au ⟨V, rfl, ar.s.sub rfl rfl⟩))
theorem p161 {x0 b k0 r} (d : Rd W K [b] x0) (hm : Vm.zhg x0 = some r) : Q1 161 [b] W [] fun W' v => ∃ a, v = a ∧ Ow W' k0 [] [a] r :=
 (c161 (d.view _) hm).ad (fk k0) fun _ _ ⟨a, e, f⟩ => ⟨a, e, f.back (ziE _)⟩
theorem c163 {x0 d x1 r} (x : Rd W0 [0] [d] x0) (hm : Vm.ziW x0 x1 = some r) : Q0 163 [d, vS x1] W0 fun Wf v => ∃ f, v = .agg [f, vB r.file].toArray ∧ OwS Wf LL [] [f] r.text := by
 unfold Vm.ziW at hm
 refine zau.of Tryz.func163 rfl rfl rfl rfl (sr (al 2 [.slice none 0 0, vB false] fun D E y z => ?_))
 have h := y.o
 refine nl (sr (mv d rfl (ms rfl (cr hm (fun _ => p151 (k0 := 3) (x.ul h)) ?_))))
 rintro b _ F hm i ⟨a, rfl, e⟩
 have A := h.n i
 refine mv (.tuple [a, vB b.2].toArray) rfl (Lw.r rfl (R.ext (vs := [a, vB b.2]) (v := a) rfl rfl) (Lw.r rfl (R.ext (vs := [a, vB b.2]) (v := vB b.2) rfl rfl) (Gv a rfl (Nb rfl (sr (mv a rfl (mb rfl (Lw.r rfl (R.bd (zs := [.slice none 0 0, vB false]) (cs := [a, vB b.2]) [(0, a), (1, vB b.2)] rfl rfl rfl (zaK e.oc rfl (zaK rfl rfl zdL))) (sta (z.up i) (zaa e.oc (zaa rfl zaF)) fun G k B => ?_)))))))))
 have C := A.t k
 refine nl ?_
 cases hm
 exact Cw.ret (zov rfl B (Res.mk C ⟨a, rfl, (e.up k).s.sub rfl rfl⟩))
theorem p163 {x0 b x1 k0 r} (d : Rd W K [b] x0) (hm : Vm.ziW x0 x1 = some r) : Q1 163 [b, vS x1] W [] fun W' v => ∃ a, v = .agg [a, vB r.file].toArray ∧ Ow W' k0 [] [a] r.text :=
 (c163 (d.view _) hm).ad (fk k0) fun _ _ ⟨a, e, f⟩ => ⟨a, e, f.back (ziE _)⟩
theorem c188 {x0 h x1 i r} (B : Rd W0 [0] [h, vB x0.file] x0) (C : Rd W0 [0] [i, vB x1.file] x1) (hm : Vm.zfE x0 x1 = some r) : Q0 188 [.agg [h, vB x0.file].toArray, .agg [i, vB x1.file].toArray] W0 fun Wf v => v = vB r := by
 unfold Vm.zfE at hm
 obtain ⟨O, k, D⟩ := has.split B
 simp only [List.cons.injEq, and_true, true_and] at k
 obtain rfl := k
 obtain ⟨P, x, E⟩ := has.split C
 simp only [List.cons.injEq, and_true, true_and] at x
 obtain rfl := x
 refine zau.of Tryz.func188 rfl rfl rfl rfl (sr (bo 2 rfl fun Q S F y => ?_))
 have G := F.o
 refine bo 3 rfl fun T z b A => ?_
 have d := G.n b
 refine Nb rfl ?_
 obtain ⟨H, I, hm⟩ := zbk hm
 refine Cw.join 5 16 [4] (fun l w => ∃ e f, CW.w f = w ∧ Le [] z f ∧ l = [vB e] ∧ H e = some r) ?_ ?_
 ·rintro _ _ σ ⟨e, f, rfl, J, rfl, hm⟩
  rw [I] at hm
  have K := d.n J
  exact .ret (rt hm K)
 ·refine rg (fl (y.up b) rfl (fl A rfl (Lw.r rfl (R.beq rfl rfl) (mb rfl (bs hm (fun a hm => ?_) fun a hm => ?_)))))
  ·exact wak 5 a (fl (y.up b) rfl (fl A rfl (ca hm (fun _ => p152 (D.ul d) (E.ul d)) fun L M hm N => Pb a rfl (Nb rfl ((ag) ⟨L, M, rfl, N, rfl, hm⟩)))))
  ·exact psk 5 a rfl (Pb a rfl (Nb rfl ((ag) ⟨false, z, rfl, Le.refl _ _, rfl, hm⟩)))
theorem p188 {x0 a x1 b r} (d : Rd W K [a, vB x0.file] x0) (f : Rd W K [b, vB x1.file] x1) (hm : Vm.zfE x0 x1 = some r) : Q1 188 [.agg [a, vB x0.file].toArray, .agg [b, vB x1.file].toArray] W [] fun W' v => v = vB r :=
 (c188 (d.view _) (f.view _) hm).ad (fk 0) fun _ _ e => e
theorem c249 {x0 e x1 f x2 h r} (z : Rd W0 [0] [e] x0) (A : Rd W0 [0] [f] x1) (B : Rd W0 [0] [h] x2) (hm : Vm.zhh x0 x1 x2 = some r) : Q0 249 [e, f, h] W0 fun Wf v => v = vB r := by
 unfold Vm.zhh at hm
 refine zau.of Tryz.func249 rfl rfl rfl rfl (sr (Nb rfl ?_))
 obtain ⟨C, D, hm⟩ := zbk hm
 refine Cw.join 7 16 [6] (fun l w => ∃ i k, CW.w k = w ∧ Le [] W0 k ∧ l = [vB i] ∧ C i = some r) ?_ ?_
 ·rintro _ _ σ ⟨i, k, rfl, E, rfl, hm⟩
  rw [D] at hm
  have F := E.o
  exact .ret (rt hm F)
 ·refine rg (mv e rfl (ca hm (fun _ => p141 z) fun M G hm d => ?_))
  have y := d.o
  refine mb rfl (bs hm (fun a hm => ?_) fun a hm => ?_)
  ·refine wak 2 a (mv f rfl (ca hm (fun _ => p141 (A.ul y)) fun N H hm x => ?_))
   have I := y.n x
   refine Pb a rfl (mb rfl (bs hm (fun b hm => ?_) fun b hm => ?_))
   ·exact wak 2 b (mv h rfl (ca hm (fun _ => p141 (B.ul I)) fun J K hm L => Pb b rfl (Nb rfl ((ag) ⟨J, K, rfl, ((d.j x).j L).w, rfl, hm⟩))))
   ·exact psk 2 b rfl (Pb b rfl (Nb rfl ((ag) ⟨false, H, rfl, (d.j x).w, rfl, hm⟩)))
  ·exact psk 2 a rfl (Pb a rfl (mb rfl (psk 2 rfl rfl (Pb rfl rfl (Nb rfl ((ag) ⟨false, G, rfl, d, rfl, hm⟩))))))
theorem p249 {x0 a x1 b x2 d r} (f : Rd W K [a] x0) (h : Rd W K [b] x1) (i : Rd W K [d] x2) (hm : Vm.zhh x0 x1 x2 = some r) : Q1 249 [a, b, d] W [] fun W' v => v = vB r :=
 (c249 (f.view _) (h.view _) (i.view _) hm).ad (fk 0) fun _ _ e => e
theorem c263 {x0 i x1 k a r} (I : Rd W0 [0] [i] x0) (hB1 : Bx W0 2 k [a]) (b : Ow W0 3 [] [a] x1) (hm : Vm.zdn x0 x1 = some r) : Q0 263 [i, ptr (bx k)] W0 fun Wf v => ∃ uc1, v = .tuple #[] ∧ Ow Wf 3 [] [uc1] r ∧ Bx Wf 2 k [uc1] := by
 unfold Vm.zdn at hm
 refine zau.of Tryz.func263 rfl rfl rfl rfl (ssr (mv i rfl (Lw.ln x0 I rfl (Lw.eq rfl (nl (cn hm (fun hm => ?_) fun hm => ?_))))))
 ·cases hm
  exact Cw.ret (zCw (Res.mk (Le.refl _ _) ⟨a, rfl, b, hB1⟩))
 ·refine sk (sr (Lw.r rfl (R.ld (v := a) rfl rfl (hB1.cell0 rfl)) (Lw.ln x1 b.rd rfl (Lw.sub rfl (Ni rfl ?_)))))
  obtain ⟨U, V, hm⟩ := zbk hm
  refine Cw.join 10 24 [3] (fun l w => ∃ A B d e, CW.w e = w ∧ Le [2, 3] W0 e ∧ l = [vI A] ∧ Ow e 3 [] [d] B ∧ Bx e 2 k [d] ∧ U A B = some r) ?_ ?_
  ·rintro _ _ σ ⟨A, B, d, e, rfl, W, rfl, X, Y, hm⟩
   rw [V] at hm
   have Z := W.s
   refine Cw.draw [3, 4] [(0, 1), (1, 0), (2, 1), (3, 0), (4, 0), (5, 0), (7, 0), (6, 2), (8, 2), (9, 0), (10, 0), (11, 3)] mixed (by kernel_rfl) fun az l10 => ?_
   have aa := Z.n l10
   have x := X.up l10
   have C := Y.up l10
   refine Mw.q rfl rfl (fun _ c => R.ld (v := d) rfl rfl (C.clc0 rfl rfl c)) (Di rfl (Mw.q rfl rfl (fun _ c => R.ld (v := d) rfl rfl (C.clc0 rfl rfl c)) (Di rfl ?_)))
   obtain ⟨a0, D, hm⟩ := ob hm
   refine Mw.p rfl rfl (fun _ => R.ix (α := Part) x.rd D rfl rfl rfl) (Df rfl (Dv i rfl ?_))
   obtain ⟨a1, c17, r18⟩ := (Part.at1 (x.rd.at_ D)).cell rfl
   refine Mw.t rfl rfl (Run.tr (R.ld rfl rfl c17)) ?_
   rintro _ _ ⟨hu, rfl⟩
   obtain rfl := hu.symm
   refine ⟨⟨_, rfl, (Le.refl _ _)⟩, ?_⟩
   obtain ⟨a2, ac, E, ae, af⟩ := Ow.take (α := Part) (β := List Str) (j := 4) (jf := 1) x D c17 rfl
   rw [← ac]
   have K := aa.t E
   obtain ⟨a3, ah, hm⟩ := ob hm
   refine Mw.t rfl rfl (T.appP (α := Str) ae (I.ul K) rfl rfl ah) ?_
   rintro a4 _ ⟨a5, rfl, y, ai⟩
   have aj := K.t y
   refine ⟨⟨_, rfl, ((E.sub (M := [3, 4]) rfl).trans (y.sub (M := [3, 4]) rfl))⟩, ?_⟩
   obtain ⟨a6, ak, hm⟩ := ob hm
   refine Mw.p rfl rfl (fun _ => R.ix (α := Part) x.rd ak rfl rfl rfl) (Df rfl ?_)
   obtain ⟨a7, am, hm⟩ := ob hm
   refine Mw.lu rfl (T.stH (α := Part) (β := List Str) (J := [4]) (af.up (y.sub (M := [4]) rfl) rfl) ai.s am rfl rfl rfl rfl) ?_
   rintro _ _ ⟨a8, rfl, L, an⟩
   have ao := aj.t L
   refine Mw.nil ?_
   cases hm
   show zxi _ _ _ .ret _ _
   exact zCw (Res.mk ao ⟨d, rfl, an, (((C.up E).up y).up L)⟩)
  ·obtain ⟨ap, aq, hm⟩ := zbk hm
   refine Cw.join 10 18 [18] (fun l w => ∃ F z, CW.w z = w ∧ Le [] W0 z ∧ l = [vB F] ∧ ap F = some r) ?_ ?_
   ·rintro _ _ σ ⟨F, z, rfl, f, rfl, hm⟩
    rw [aq] at hm
    have G := hB1.up f
    refine cn hm (fun hm => ?_) fun hm => ?_
    ·refine sr (lz G rfl (Lw.r rfl (R.bd (zs := [vB false, .slice none 0 0, .slice none 0 0, .slice none 0 0, .slice none 0 0]) (cs := [vB false, .slice none 0 0, .slice none 0 0, .slice none 0 0, .slice none 0 0]) [] rfl rfl rfl zdL) (Lw.t rfl (T.bs 5 [.agg [vB false, .slice none 0 0, .slice none 0 0, .slice none 0 0, .slice none 0 0].toArray] (cs := [vB false, .slice none 0 0, .slice none 0 0, .slice none 0 0, .slice none 0 0]) rfl rfl (bsA rfl)) ?_)))
     rintro _ _ ⟨ba, bb, rfl, rfl, H, ar⟩
     obtain ⟨au, av, hm⟩ := ob hm
     refine Lw.t rfl (T.app1 (α := Part) (J := []) (K' := []) ((b.up f).up H) ar (Part.own false ([] : List Str) ([] : List Str) ([] : List Str) ([] : List Str) (zqe []) (zqe []) (zqe []) (zqe [])) rfl rfl av) ?_
     rintro N _ ⟨bc, rfl, O, P⟩
     refine Lw.u (T.st0 (v := N) ((G.up H).up O) rfl rfl P.oc rfl rfl) ?_
     rintro _ _ ⟨aw, rfl, Q, ax⟩
     exact nl (rg (mi rfl (Lw.add rfl (Ni rfl ((ag) ⟨w64 ((w64 ((x1.length : Int) - 1)) + 1), au, N, aw, rfl, (((f.j H).j O).j Q).w, rfl, (P.up Q), ax, hm⟩)))))
    ·exact sk ((ag) ⟨w64 ((x1.length : Int) - 1), x1, a, z, rfl, f.w, rfl, (b.up f), G, hm⟩)
   ·refine rg (mi rfl (Lw.lt rfl (mb rfl (bs hm (fun h hm => ?_) fun h hm => ?_))))
    ·exact psk 5 h rfl (Pb h rfl (nl ((ag) ⟨true, W0, rfl, Le.refl _ _, rfl, hm⟩)))
    ·refine wak 5 h (Lw.r rfl (R.ld (v := a) rfl rfl (hB1.cell0 rfl)) (mi rfl ?_))
     obtain ⟨ay, S, hm⟩ := ob hm
     exact Lw.r rfl (R.ix (α := Part) b.rd S rfl rfl rfl) (Lw.fa rfl (Lw.r rfl (R.ld rfl rfl (Part.at0 (b.rd.at_ S)).bool) (Pb h rfl (nl ((ag) ⟨ay.Clash, W0, rfl, Le.refl _ _, rfl, hm⟩)))))
theorem p263 {x0 b x1 a d c0 c1 r} (f : Rd W K [b] x0) (hB1 : Bx W c0 a [d]) (h : Ow W c1 [] [d] x1) (hJ : okJ K [c0, c1] = true) (hm : Vm.zdn x0 x1 = some r) : Q1 263 [b, ptr (bx a)] W [c0, c1] fun W' v => ∃ uc1, v = .tuple #[] ∧ Ow W' c1 [] [uc1] r ∧ Bx W' c0 a [uc1] :=
 zau.adJ (J := [c0, c1]) (fun c => bif Nat.beq c 0 then 0 else bif Nat.beq c 2 then c0 else bif Nat.beq c 3 then c1 else 0) (c263 (f.view _) (hB1.viewJ 0 hJ) (h.viewJ 1 hJ) hm) fun _ _ ⟨uc1, e, i, k⟩ => ⟨uc1, e, Ow.backJ 1 i rfl, Bx.backJ 0 k rfl⟩
theorem c250 {x0 b x1 d x2 e r} (z : Rd W0 [0] [b] x0) (X : Rd W0 [0] [d] x1) (Y : Rd W0 [0] [e] x2) (hm : Vm.zij x0 x1 x2 = some r) : Q0 250 [b, d, e] W0 fun Wf v => ∃ u0, v = u0 ∧ OwS Wf LL [] [u0] r := by
 unfold Vm.zij at hm
 refine zau.of Tryz.func250 rfl rfl rfl rfl (sr (Nv (.slice none 0 0) rfl (sr (mv b rfl (mv d rfl (cr hm (fun _ => p185 (k0 := 2) z X) ?_))))))
 rintro z1 fe W3 hm l3 ⟨_, rfl, c3⟩
 have a4 := l3.o
 refine mv d rfl (Lw.ln x1 (X.ul a4) rfl (Lw.t rfl (T.bs 3 [vI (x1.length : Int)] (cs := [vI (x1.length : Int)]) rfl rfl (bsv rfl)) ?_))
 rintro _ _ ⟨g6, W6, rfl, rfl, l6, b6⟩
 have a7 := a4.n l6
 obtain ⟨q9, c6, hm⟩ := ob hm
 refine Lw.t rfl (T.app1S (α := Int) (K' := []) (c3.up l6) b6 (rdI _) rfl rfl c6) ?_
 rintro O _ ⟨fi, rfl, c7, c8⟩
 have ay := a7.t c7
 refine mv b rfl (mv e rfl (cr hm (fun _ => p185 (k0 := 4) (z.ul ay) (Y.ul ay)) ?_))
 rintro fj fm fn hm b3 ⟨_, rfl, c9⟩
 have b4 := ay.n b3
 refine mv e rfl (Lw.ln x2 (Y.ul b4) rfl (Lw.t rfl (T.bs 5 [vI (x2.length : Int)] (cs := [vI (x2.length : Int)]) rfl rfl (bsv rfl)) ?_))
 rintro _ _ ⟨fo, fp, rfl, rfl, az, da⟩
 have db := b4.n az
 obtain ⟨dc, dd, hm⟩ := ob hm
 refine Lw.t rfl (T.app1S (α := Int) (K' := []) (c9.up az) da (rdI _) rfl rfl dd) ?_
 rintro Z _ ⟨fq, rfl, b5, de⟩
 have df := db.t b5
 refine Gv O rfl (Nv Z rfl (sr (al 6 [.slice none 0 0] fun f b7 a0 dg => ?_)))
 have dh := df.n a0
 have b8 := (((c8.up b3).up az).up b5).up a0
 refine nl (sr (Lw.r rfl (R.mkF (vs := [ptr (bx f)]) rfl) (Nv (.func (.func 263) #[] [ptr (bx f)].toArray) rfl (sr (Gi rfl (Gi rfl (Ni rfl (ssr (mv O rfl (Lw.ln q9 b8.rd rfl (mi rfl (nl (Cw.block ?_)))))))))))))
 obtain ⟨di, dj, hm⟩ := zbk hm
 refine Cw.loop 35 120 [11, 12, 13, 14, 15, 16, 17, 35] (fun m l w => ∃ k h i a I b9 a1 a2 a3 A x, CW.w x = w ∧ Le [6, 7, 8, 9, 10] b7 x ∧ l = [vI k, vI h, vI i, b9, a1, a2, a3, vI a] ∧ Ow x 7 [] [A] I ∧ Bx x 6 f [A] ∧ Vm.zby x0 x1 x2 q9 dc di m k h i a I = some r) _ ⟨0, 0, 0, 0, ([] : List Part), undef, undef, undef, undef, .slice none 0 0, b7, rfl, Le.refl _ _, rfl, owN 7 [], dg, hm⟩ ?_
 rintro (_ | fr) _ _ σ ⟨k, h, i, a, I, b9, a1, a2, a3, A, x, rfl, aa, rfl, a5, a6, hm⟩
 ·cases hm
 unfold Vm.zby at hm
 have cb := dh.t aa
 have a8 := b8.up aa
 have a9 := (de.up a0).up aa
 refine sr (Lw.lt rfl (nl (Cw.seq (cn hm (fun hm => ?_) fun hm => ?_))))
 ·refine sk ?_
  obtain ⟨dk, dl, hm⟩ := zbk hm
  refine Cw.join 37 119 [11, 12, 13, 14, 15, 16, 17] (fun l w => ∃ ac ae af ah ba bb bc be ai K, CW.w K = w ∧ Le [6, 7, 8, 9, 10] x K ∧ l = [vI ac, vI ae, vI af, ba, bb, bc, be] ∧ Ow K 7 [] [ai] ah ∧ Bx K 6 f [ai] ∧ dk ac ae af ah = some r) ?_ ?_
  ·rintro _ _ σ ⟨ac, ae, af, ah, ba, bb, bc, be, ai, K, rfl, dm, rfl, dn, dp, hm⟩
   rw [dl] at hm
   exact rg (Lw.add rfl (mi rfl (nl ((agm) ⟨ac, ae, af, w64 (a + 1), ah, ba, bb, bc, be, ai, K, rfl, (aa.j dm).w, rfl, dn, dp, hm⟩))))
  ·refine Cw.block (sr (mi rfl (Ni rfl (Cw.seq ?_))))
   obtain ⟨dq, dr, hm⟩ := zbk hm
   refine Cw.join 38 49 [49] (fun l w => ∃ bg aj, CW.w aj = w ∧ Le [] x aj ∧ l = [vB bg] ∧ dq bg = some r) ?_ ?_
   ·rintro _ _ σ ⟨bg, aj, rfl, y, rfl, hm⟩
    rw [dr] at hm
    have ds := cb.n y
    refine cn hm (fun hm => ?_) fun hm => ?_
    ·exact Cw.exit ((ag) ⟨k, h, i, I, vI a, a1, a2, a3, A, aj, rfl, y.w, rfl, (a5.up y), (a6.up y), hm⟩)
    ·refine sk (Cw.seq (Cw.draw [] [(0, 0), (1, 0), (2, 0), (3, 0), (4, 0), (5, 0), (6, 0), (7, 0), (8, 0), (9, 1), (10, 0), (11, 0), (12, 0), (13, 0), (14, 0), (15, 0), (16, 1), (17, 0), (18, 0), (19, 0), (20, 0)] mixed (by kernel_rfl) fun cc L => ?_))
     have B := ds.n L
     have ak := (a8.up y).up L
     have am := (a9.up y).up L
     refine Dv b rfl (Di rfl (Di rfl ?_))
     obtain ⟨fs, cd, hm⟩ := ob hm
     have r103 := (z.ul B).cutV cd
     refine Mw.p rfl rfl (fun _ => R.sl (z.ul B) cd rfl (.inr rfl) (.inr rfl)) (Dv d rfl (Di rfl (Dv O rfl (Di rfl ?_))))
     obtain ⟨C, bh, hm⟩ := ob hm
     refine Mw.p rfl rfl (fun _ => R.ix (α := Int) ak.rd bh rfl rfl rfl) (Mw.q rfl rfl (fun _ c => R.ld rfl rfl (zaz (ak.rd.at_ bh).1 rfl (ak.rd.at_ bh).int c)) ?_)
     obtain ⟨ft, ce, hm⟩ := ob hm
     have r110 := (X.ul B).cutV ce
     refine Mw.p rfl rfl (fun _ => R.sl (X.ul B) ce rfl (.inr rfl) (.inr rfl)) (Dv e rfl (Di rfl (Dv Z rfl (Di rfl ?_))))
     obtain ⟨D, bi, hm⟩ := ob hm
     refine Mw.p rfl rfl (fun _ => R.ix (α := Int) am.rd bi rfl rfl rfl) (Mw.q rfl rfl (fun _ c => R.ld rfl rfl (zaz (am.rd.at_ bi).1 rfl (am.rd.at_ bi).int c)) ?_)
     obtain ⟨fu, cf, hm⟩ := ob hm
     have r117 := (Y.ul B).cutV cf
     refine Mw.p rfl rfl (fun _ => R.sl (Y.ul B) cf rfl (.inr rfl) (.inr rfl)) (Hv (cutV b (k : Int).toNat (a : Int).toNat (Rp.sz (Str))) rfl (Hv (cutV d (h : Int).toNat (C : Int).toNat (Rp.sz (Str))) rfl (Hv (cutV e (i : Int).toNat (D : Int).toNat (Rp.sz (Str))) rfl (Mw.nil ?_))))
     obtain ⟨dt, du, hm⟩ := zbk hm
     refine Cw.join 68 96 [] (fun l w => ∃ P an E, CW.w E = w ∧ Le [6, 7, 8, 9, 10] cc E ∧ l = [] ∧ Ow E 7 [] [an] P ∧ Bx E 6 f [an] ∧ dt P = some r) ?_ ?_
     ·rintro _ _ σ ⟨P, an, E, rfl, ao, rfl, cg, ch, hm⟩
      rw [du] at hm
      have bj := B.t ao
      obtain ⟨dv, dw, hm⟩ := zbk hm
      refine Cw.join 97 107 [] (fun l w => ∃ ap aq Q, CW.w Q = w ∧ Le [6, 7] E Q ∧ l = [] ∧ Ow Q 7 [] [aq] ap ∧ Bx Q 6 f [aq] ∧ dv ap = some r) ?_ ?_
      ·rintro _ _ σ ⟨ap, aq, Q, rfl, bk, rfl, dx, dy, hm⟩
       rw [dw] at hm
       refine Cw.draw [] [(0, 0), (1, 0), (2, 0), (3, 0), (4, 0), (5, 1), (6, 0), (7, 0), (8, 0), (9, 0), (10, 1), (11, 0), (12, 0), (13, 0), (14, 0)] mixed (by kernel_rfl) fun dz S => ?_
       have bl := ((ak.up ao).up bk).up S
       have bm := ((am.up ao).up bk).up S
       refine Di rfl (Mw.p rfl rfl (fun _ => R.add rfl rfl) (Dv O rfl (Di rfl ?_)))
       obtain ⟨d0, bn, hm⟩ := ob hm
       refine Mw.p rfl rfl (fun _ => R.ix (α := Int) bl.rd bn rfl rfl rfl) (Mw.q rfl rfl (fun _ c => R.ld rfl rfl (zaz (bl.rd.at_ bn).1 rfl (bl.rd.at_ bn).int c)) (Mw.p rfl rfl (fun _ => R.add rfl rfl) (Dv Z rfl (Di rfl ?_))))
       obtain ⟨d1, bp, hm⟩ := ob hm
       exact Mw.p rfl rfl (fun _ => R.ix (α := Int) bm.rd bp rfl rfl rfl) (Mw.q rfl rfl (fun _ c => R.ld rfl rfl (zaz (bm.rd.at_ bp).1 rfl (bm.rd.at_ bp).int c)) (Mw.p rfl rfl (fun _ => R.add rfl rfl) (Hi rfl (Hi rfl (Hi rfl (Mw.nil ((ag) ⟨w64 (a + 1), w64 (d0 + 1), w64 (d1 + 1), ap, vI a, (cutV b (k : Int).toNat (a : Int).toNat (Rp.sz (Str))), (cutV d (h : Int).toNat (C : Int).toNat (Rp.sz (Str))), (cutV e (i : Int).toNat (D : Int).toNat (Rp.sz (Str))), aq, dz, rfl, ((((y.j L).j ao).j bk).j S).w, rfl, (dx.up S), (dy.up S), hm⟩)))))))
      ·refine sr (mi rfl (mv b rfl (Lw.ln x0 (z.ul bj) rfl (Lw.lt rfl (nl (cn hm (fun hm => ?_) fun hm => ?_))))))
       ·refine rg (mv (.func (.func 263) #[] [ptr (bx f)].toArray) rfl (mv b rfl (mi rfl (mi rfl (Lw.add rfl ?_)))))
        obtain ⟨fv, ci, hm⟩ := ob hm
        have r157 := (z.ul bj).cutV ci
        refine Lw.r rfl (R.sl (z.ul bj) ci rfl (.inr rfl) (.inr rfl)) ?_
        obtain ⟨d2, d3, hm⟩ := ob hm
        refine Lw.t rfl (T.callV (vals := [(cutV b (a : Int).toNat (w64 (a + 1) : Int).toNat (Rp.sz (Str)))]) (caps := [ptr (bx f)]) rfl rfl (p263  (c0 := 6) (c1 := 7) (x1 := P) r157 ch cg rfl d3)) ?_
        rintro _ _ ⟨d4, rfl, d5, ⟨d6, rfl, d7, d8⟩⟩
        exact nl ((ag) ⟨d2, d6, d4, rfl, d5, rfl, d7, d8, hm⟩)
       ·exact sk ((ag) ⟨P, an, E, rfl, Le.refl _ _, rfl, cg, ch, hm⟩)
     ·refine Cw.block ?_
      obtain ⟨d9, ea, hm⟩ := zbk hm
      refine Cw.join 78 86 [78] (fun l w => ∃ bq br, CW.w br = w ∧ Le [] cc br ∧ l = [vB bq] ∧ d9 bq = some r) ?_ ?_
      ·rintro _ _ σ ⟨bq, br, rfl, M, rfl, hm⟩
       rw [ea] at hm
       have ar := M.o
       have bu := ((a5.up y).up L).up M
       have bv := ((a6.up y).up L).up M
       refine cn hm (fun hm => ?_) fun hm => ?_
       ·refine rg (mv (.func (.func 263) #[] [ptr (bx f)].toArray) rfl (mv (cutV e (i : Int).toNat (D : Int).toNat (Rp.sz (Str))) rfl ?_))
        obtain ⟨eb, ec, hm⟩ := ob hm
        refine Lw.t rfl (T.callV (vals := [(cutV e (i : Int).toNat (D : Int).toNat (Rp.sz (Str)))]) (caps := [ptr (bx f)]) rfl rfl (p263  (c0 := 6) (c1 := 7) (x1 := I) (r117.ul ar) bv bu rfl ec)) ?_
        rintro _ _ ⟨ed, rfl, ee, ⟨ef, rfl, eg, eh⟩⟩
        exact nl ((ag) ⟨eb, ef, ed, rfl, (M.j ee).w, rfl, eg, eh, hm⟩)
       ·refine sr (mv (cutV e (i : Int).toNat (D : Int).toNat (Rp.sz (Str))) rfl (mv (cutV b (k : Int).toNat (a : Int).toNat (Rp.sz (Str))) rfl (ca hm (fun _ => p152 (r117.ul ar) (r103.ul ar)) fun fw fx hm F => ?_)))
        have cj := ar.n F
        refine Nb rfl (cn hm (fun hm => ?_) fun hm => ?_)
        ·refine rg (mv (.func (.func 263) #[] [ptr (bx f)].toArray) rfl (mv (cutV d (h : Int).toNat (C : Int).toNat (Rp.sz (Str))) rfl ?_))
         obtain ⟨ei, ej, hm⟩ := ob hm
         refine Lw.t rfl (T.callV (vals := [(cutV d (h : Int).toNat (C : Int).toNat (Rp.sz (Str)))]) (caps := [ptr (bx f)]) rfl rfl (p263  (c0 := 6) (c1 := 7) (x1 := I) (r110.ul cj) (bv.up F) (bu.up F) rfl ej)) ?_
         rintro _ _ ⟨ek, rfl, el, ⟨em, rfl, en, eo⟩⟩
         exact nl ((ag) ⟨ei, em, ek, rfl, ((M.j F).j el).w, rfl, en, eo, hm⟩)
        ·refine Cw.draw [] [(0, 1), (1, 0), (3, 0), (5, 0), (2, 2), (4, 2), (6, 2), (7, 0), (8, 2), (9, 3), (10, 3)] mixed (by kernel_rfl) fun fy au => ?_
         have ck := cj.n au
         have cl := (bv.up F).up au
         refine Mw.q rfl rfl (fun _ c => R.ld (v := A) rfl rfl (cl.clc0 rfl rfl c)) (Dv (cutV b (k : Int).toNat (a : Int).toNat (Rp.sz (Str))) rfl (Dv (cutV d (h : Int).toNat (C : Int).toNat (Rp.sz (Str))) rfl (Dv (cutV e (i : Int).toNat (D : Int).toNat (Rp.sz (Str))) rfl ?_)))
         obtain ⟨ep, er, hm⟩ := ob hm
         refine Mw.t rfl rfl (T.call rfl (p144 (k0 := 8) (r103.ul ck) er)) ?_
         rintro av _ ⟨fz, rfl, U, ⟨_, rfl, es⟩⟩
         have cm := ck.n U
         refine m0 U fun et => ?_
         obtain ⟨eu, ew, hm⟩ := ob hm
         refine Mw.t rfl rfl (T.call rfl (p144 (k0 := 9) (r110.ul cm) ew)) ?_
         rintro aw _ ⟨f0, rfl, N, ⟨_, rfl, co⟩⟩
         have ex := cm.n N
         refine mc et N fun ey => ?_
         obtain ⟨ez, e0, hm⟩ := ob hm
         refine Mw.t rfl rfl (T.call rfl (p144 (k0 := 10) (r117.ul ex) e0)) ?_
         rintro ax _ ⟨f1, rfl, G, ⟨_, rfl, cp⟩⟩
         have cq := (es.up N).up G
         refine mc ey G fun e1 => Mw.p rfl rfl (fun _ => R.bd (zs := [vB false, .slice none 0 0, .slice none 0 0, .slice none 0 0, .slice none 0 0]) (cs := [vB true, .slice none 0 0, av, aw, ax]) [(0, vB true), (2, av), (3, aw), (4, ax)] rfl rfl rfl (zaK rfl rfl (zaK cq.oc rfl (zaK (co.up G).oc rfl (zaK cp.oc rfl zdL))))) (Mw.t rfl rfl (T.bs 11 [.agg [vB true, .slice none 0 0, av, aw, ax].toArray] (cs := [vB true, .slice none 0 0, av, aw, ax]) rfl rfl (bsA rfl)) ?_)
         rintro _ _ ⟨f2, f3, rfl, rfl, H, e2⟩
         refine mc e1 H fun f4 => ?_
         obtain ⟨e3, e4, hm⟩ := ob hm
         refine Mw.l rfl rfl (T.app1 (α := Part) (J := [8, 9, 10]) (K' := []) ((((((bu.up F).up au).up U).up N).up G).up H) e2 (Part.own true ([] : List Str) ep eu ez (zqe []) (cq.up H).s ((co.up G).up H).s (cp.up H).s) rfl rfl e4) ?_
         rintro ct _ ⟨f5, rfl, cu, cv⟩
         refine Mw.lu rfl (T.st0 (v := ct) (((((cl.up U).up N).up G).up H).up cu) rfl rfl cv.oc rfl rfl) ?_
         rintro _ _ ⟨e5, rfl, cw, e6⟩
         exact Mw.nil ((ag) ⟨e3, ct, e5, rfl, ((((((((M.j F).j au).j U).j N).j G).j H).j cu).j cw).w, rfl, (cv.up cw), e6, hm⟩)
      ·refine rg (mv (cutV d (h : Int).toNat (C : Int).toNat (Rp.sz (Str))) rfl (mv (cutV b (k : Int).toNat (a : Int).toNat (Rp.sz (Str))) rfl (ca hm (fun _ => p152 r110 r103) fun f6 e7 hm bw => ?_)))
       have cx := bw.o
       refine mb rfl (bs hm (fun V hm => ?_) fun V hm => ?_)
       ·exact psk 3 V rfl (Pb V rfl (Nb rfl ((ag) ⟨true, e7, rfl, bw, rfl, hm⟩)))
       ·exact wak 3 V (mv (cutV d (h : Int).toNat (C : Int).toNat (Rp.sz (Str))) rfl (mv (cutV e (i : Int).toNat (D : Int).toNat (Rp.sz (Str))) rfl (ca hm (fun _ => p152 (r110.ul cx) (r117.ul cx)) fun e8 e9 hm fb => Pb V rfl (Nb rfl ((ag) ⟨e8, e9, rfl, (bw.j fb).w, rfl, hm⟩)))))
   ·refine rg (mv O rfl (mi rfl ?_))
    obtain ⟨f7, cy, hm⟩ := ob hm
    refine Lw.r rfl (R.ix (α := Int) a8.rd cy rfl rfl rfl) (Lw.r rfl (R.ld rfl rfl (a8.rd.at_ cy).int) (Lw.lt rfl (mb rfl (bs hm (fun W hm => ?_) fun W hm => ?_))))
    ·exact psk 5 W rfl (Pb W rfl (nl ((ag) ⟨true, x, rfl, Le.refl _ _, rfl, hm⟩)))
    ·refine wak 5 W (mv Z rfl (mi rfl ?_))
     obtain ⟨fc, cz, hm⟩ := ob hm
     exact Lw.r rfl (R.ix (α := Int) a9.rd cz rfl rfl rfl) (Lw.r rfl (R.ld rfl rfl (a9.rd.at_ cz).int) (Lw.lt rfl (Pb W rfl (nl ((ag) ⟨decide ((fc : Int) < (0 : Int)), x, rfl, Le.refl _ _, rfl, hm⟩)))))
 ·refine Cw.exit ?_
  rw [dj] at hm
  refine sr (lz a6 rfl (Nv A rfl ?_))
  cases hm
  exact Cw.ret (zjQ rfl (Res.mk cb ⟨A, rfl, a5.s.sub rfl rfl⟩))
theorem p250 {x0 b x1 d x2 f k0 r} (h : Rd W K [b] x0) (i : Rd W K [d] x1) (k : Rd W K [f] x2) (hm : Vm.zij x0 x1 x2 = some r) : Q1 250 [b, d, f] W [] fun W' v => ∃ a, v = a ∧ Ow W' k0 [] [a] r :=
 (c250 (h.view _) (i.view _) (k.view _) hm).ad (fk k0) fun _ _ ⟨a, e, x⟩ => ⟨a, e, x.back (ziE _)⟩
theorem c222 {x0 a b d e r} (i : Rd W0 [0] [vB x0.Clash, a, b, d, e] x0) (hm : Vm.zgX x0 = some r) : Q0 222 [.agg [vB x0.Clash, a, b, d, e].toArray] W0 fun Wf v => ∃ f, v = .tuple [f, vB r.2].toArray ∧ OwS Wf LL [] [f] r.1 := by
 unfold Vm.zgX at hm
 obtain ⟨y, z, A, B, h, C, D, E, F⟩ := Part.split i
 simp only [List.cons.injEq, and_true, true_and] at h
 obtain ⟨rfl, rfl, rfl, rfl⟩ := h
 refine zau.of Tryz.func222 rfl rfl rfl rfl (sr (bo 2 rfl fun G H k I => ?_))
 have x := k.o
 refine Gv (.slice none 0 0) rfl (Nb rfl (sr (Gv (.slice none 0 0) rfl (Nb rfl ?_))))
 cases hm
 exact Cw.ret (zqd rfl rfl (Res.mk x ⟨.slice none 0 0, rfl, (zqe []).sub rfl rfl⟩))
theorem p222 {x0 b d f h k0 r} (i : Rd W K [vB x0.Clash, b, d, f, h] x0) (hm : Vm.zgX x0 = some r) : Q1 222 [.agg [vB x0.Clash, b, d, f, h].toArray] W [] fun W' v => ∃ a, v = .tuple [a, vB r.2].toArray ∧ Ow W' k0 [] [a] r.1 :=
 (c222 (i.view _) hm).ad (fk k0) fun _ _ ⟨a, e, k⟩ => ⟨a, e, k.back (ziE _)⟩
theorem c221_222 {x0 C x1 D x2 E r} (h0 : Rd W0 [0] [C] x0) (h1 : Rd W0 [0] [D] x1) (h2 : Rd W0 [0] [E] x2) (hm : Vm.zcb x0 x1 x2 = some r) : Q0 221 [C, D, E, .func (.func 222) #[] [].toArray] W0 fun Wf v => ∃ u0, v = .tuple [u0, vB r.2].toArray ∧ OwS Wf LL [] [u0] r.1 := by
 unfold Vm.zcb at hm
 refine zau.of Tryz.func221 rfl rfl rfl rfl (sr (Gv (.slice none 0 0) rfl (Nb rfl (ssr (mv C rfl (mv D rfl (mv E rfl (ca hm (fun _ => p249 h0 h1 h2) fun z1 W3 hm l3 => ?_))))))))
 have i := l3.o
 refine Lw.r rfl (R.not rfl) (nl (cn hm (fun hm => ?_) fun hm => ?_))
 ·refine sr (Gv (.slice none 0 0) rfl (Nb rfl ?_))
  cases hm
  exact Cw.ret (zqd rfl rfl (Res.mk i ⟨.slice none 0 0, rfl, (zqe []).sub rfl rfl⟩))
 ·refine sk (sr (Nv (.slice none 0 0) rfl (ssr (mv C rfl (mv D rfl (mv E rfl (cr hm (fun _ => p250 (k0 := 2) (h0.ul i) (h1.ul i) (h2.ul i)) ?_)))))))
  rintro O a3 b4 hm a5 ⟨_, rfl, aj⟩
  have a6 := i.n a5
  refine Lw.ln O aj.rd rfl (mi rfl (nl (Cw.block ?_)))
  obtain ⟨P, a7, a8, a9⟩ := zl7 _ 2
  rw [← a7]
  have ak : Rd (α := List Vm.Part) P [0] [a3] O := by rw [a9]; exact (aj.rd.dye 2).sub (M := [0]) rfl
  have am := a6.t a8
  obtain ⟨ba, bb, hm⟩ := zbk hm
  refine Cw.loop 26 46 [8, 9, 10, 12, 13, 14, 15, 26] (fun m l w => ∃ k x Q F y b an ao S U z, CW.w z = w ∧ Le [6, 7, 8] P z ∧ l = [y, vB x, b, an, ao, S, U, vI F] ∧ Ow z 5 [] [y] k ∧ Ow z 6 [] [b] Q ∧ Vm.zaI O ba m k x Q F = some r) _ ⟨([] : List Str), false, ([] : List Str), 0, .slice none 0 0, .slice none 0 0, undef, undef, undef, undef, P, rfl, Le.refl _ _, rfl, owN 5 [], owN 6 [], hm⟩ ?_
  rintro (_ | b5) _ _ σ ⟨k, x, Q, F, y, b, an, ao, S, U, z, rfl, ap, rfl, bc, V, hm⟩
  ·cases hm
  unfold Vm.zaI at hm
  have G := ap.s
  refine sr (Lw.lt rfl (nl (Cw.seq (cn hm (fun hm => ?_) fun hm => ?_))))
  ·refine sk (Cw.seq (Cw.block (sr ?_)))
   obtain ⟨d, aq, hm⟩ := ob hm
   refine Lw.r rfl (R.ix (α := Part) (ak.ul G) aq rfl rfl rfl) ?_
   obtain ⟨x36, c37, _, r38⟩ := ((ak.ul G).at_ aq).cells
   obtain ⟨W, be, bg, bh, rfl, r40, r42, r44, r46⟩ := Part.split r38
   refine Lw.r rfl (R.lda c37 rfl rfl) (al 7 [vB false, .slice none 0 0, .slice none 0 0, .slice none 0 0, .slice none 0 0] fun bi b6 H bj => ?_)
   have f := H.o
   refine sta bj (zaa rfl (zaa r40.oc (zaa r42.oc (zaa r44.oc (zaa r46.oc zaF))))) fun ar I X => ?_
   have h := I.s
   have au := (bc.up H).up I
   refine nl (sr (fl X rfl (Nv W rfl ?_)))
   obtain ⟨bk, bl, hm⟩ := zbk hm
   refine Cw.join 32 42 [8, 9, 13, 14, 15] (fun l w => ∃ J L Y N A Z aa B, CW.w B = w ∧ Le [8] ar B ∧ l = [N, vB L, A, Z, aa] ∧ Ow B 5 [] [N] J ∧ Rd B [0] [A] Y ∧ bk J L Y = some r) ?_ ?_
   ·rintro _ _ σ ⟨J, L, Y, N, A, Z, aa, B, rfl, av, rfl, bm, r61, hm⟩
    rw [bl] at hm
    refine rg (mv b rfl (mv A rfl ?_))
    obtain ⟨bn, bp, hm⟩ := ob hm
    refine Lw.t rfl (T.appP (α := Str) (((V.up H).up I).up av) r61 rfl rfl bp) ?_
    rintro aw _ ⟨bq, rfl, ax, br⟩
    exact Nv aw rfl (rg (Lw.add rfl (mi rfl (nl ((agm) ⟨J, L, bn, w64 (F + 1), N, aw, ptr (bx bi), A, Z, aa, bq, rfl, ((((ap.j H).j I).j av).j ax).w, rfl, (bm.up ax), br, hm⟩)))))
   ·refine sr (fl X rfl (nl (cn hm (fun hm => ?_) fun hm => ?_)))
    ·refine sr (mv (.func (.func 222) #[] [].toArray) rfl (la X ?_))
     obtain ⟨e, bu, hm⟩ := ob hm
     refine Lw.t rfl (T.callV (vals := [.agg [vB d.Clash, W, be, bg, bh].toArray]) (caps := []) rfl rfl (p222 (k0 := 8) (Part.rd (K := [0]) d.Clash d.Lines d.Old d.One d.Two (r40.ul (f.trans h)) (r42.ul (f.trans h)) (r44.ul (f.trans h)) (r46.ul (f.trans h))) bu)) ?_
     rintro _ _ ⟨b7, rfl, ac, ⟨a, rfl, bv⟩⟩
     have bw := (((am.trans G).trans f).trans h).n ac
     refine mv (.tuple [a, vB e.2].toArray) rfl (Lw.r rfl (R.ext (vs := [a, vB e.2]) (v := a) rfl rfl) (Lw.r rfl (R.ext (vs := [a, vB e.2]) (v := vB e.2) rfl rfl) (Gv a rfl (Nb rfl (ssr (mb rfl (Lw.r rfl (R.not rfl) (nl (cn hm (fun hm => ?_) fun hm => ?_)))))))))
     ·refine sr (Gv (.slice none 0 0) rfl (Nb rfl ?_))
      cases hm
      exact Cw.ret (zqd rfl rfl (Res.mk bw ⟨.slice none 0 0, rfl, (zqe []).sub rfl rfl⟩))
     ·refine sk (rg (mv a rfl (Nv a rfl ?_)))
      obtain ⟨ay, bz, az, b0⟩ := zl7 _ 8
      have b1 : Rd (α := List Str) ay [0] [a] e.1 := by rw [b0]; exact (bv.rd.dye 8).sub (M := [0]) rfl
      exact (ag) ⟨k, x, e.1, y, a, a, vB e.2, ay, bz, (ac.j az).w, rfl, ((au.up ac).up az), b1, hm⟩
    ·exact sk ((ag) ⟨k, x, d.Lines, y, W, S, U, ar, rfl, Le.refl _ _, rfl, au, (r40.ul (f.trans h)), hm⟩)
  ·refine Cw.exit ?_
   rw [bb] at hm
   refine ssr (mv b rfl (ca hm (fun _ => p141 (K := [6]) V.rd) fun b8 b9 hm a0 => ?_))
   have a1 := (am.trans G).n a0
   refine Lw.r rfl (R.not rfl) (nl (cn hm (fun hm => ?_) fun hm => ?_))
   ·refine sr (Gv (.slice none 0 0) rfl (Nb rfl ?_))
    cases hm
    exact Cw.ret (zqd rfl rfl (Res.mk a1 ⟨.slice none 0 0, rfl, (zqe []).sub rfl rfl⟩))
   ·refine sk (sr (mv b rfl (Gv b rfl (Nb rfl ?_))))
    cases hm
    exact Cw.ret (zqd rfl rfl (Res.mk a1 ⟨b, rfl, (V.up a0).s.sub rfl rfl⟩))
theorem p221_222 {x0 b x1 d x2 f k0 r} (h : Rd W K [b] x0) (i : Rd W K [d] x1) (k : Rd W K [f] x2) (hm : Vm.zcb x0 x1 x2 = some r) : Q1 221 [b, d, f, .func (.func 222) #[] [].toArray] W [] fun W' v => ∃ a, v = .tuple [a, vB r.2].toArray ∧ Ow W' k0 [] [a] r.1 :=
 (c221_222 (h.view _) (i.view _) (k.view _) hm).ad (fk k0) fun _ _ ⟨a, e, x⟩ => ⟨a, e, x.back (ziE _)⟩
end Go.Sx
