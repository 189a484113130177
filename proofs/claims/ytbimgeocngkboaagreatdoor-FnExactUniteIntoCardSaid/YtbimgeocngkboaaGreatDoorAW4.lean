/- Walks: each function answers as its model, printed by a program of ours. Conditions: the arguments read as they are given. -/
import Derived.Test.YtbimgeocngkboaaGreatDoorATs
import Derived.Test.YtbimgeocngkboaaGreatDoorAM0
import Derived.Test.YtbimgeocngkboaaGreatDoorAW3
import Derived.Test.YtbimgeocngkboaaGreatDoorAE
namespace Go.Sx
open Go Go.Proofs Go.Vm Rp
set_option linter.unusedVariables false
set_option linter.unusedSimpArgs false
variable {W W0 : CW} {K : List Nat}
theorem c88 {x0 d x1 r} (i : Rd W0 [0] [d] x0) (h1 : Rd W0 [0] [vS x1.Name, vI x1.At] x1) (hm : Vm.impl_insertHead x0 x1 = some r) : Q0 88 [d, .agg [vS x1.Name, vI x1.At].toArray] W0 fun Wf v => ∃ P, v = P ∧ OwS Wf LL [] [P] r := by
 unfold Vm.impl_insertHead at hm
 refine CallR.of Tryz.func88 rfl rfl rfl rfl (sr (bo 2 rfl fun g1 Q l1 S => ?_))
 have U := l1.o
 refine Nv (.slice none 0 0) rfl (sr (mv d rfl (Lw.ln x0 (i.ul U) rfl (Ni rfl (Cw.seq (Cw.block ?_))))))
 obtain ⟨K6, ao, hm⟩ := jn_e hm
 refine Cw.loop 8 22 [5] (fun m l w => ∃ b y, CW.w y = w ∧ Le [] Q y ∧ l = [vI b] ∧ Vm.impl_insertHead_l1 x0 x1 K6 m b = some r) _ ⟨(x0.length : Int), Q, rfl, Le.refl _ _, rfl, hm⟩ ?_
 rintro (_ | m7) _ _ σ ⟨b, y, rfl, z, rfl, hm⟩
 ·cases hm
 unfold Vm.impl_insertHead_l1 at hm
 have V := U.n z
 refine Cw.seq ?_
 obtain ⟨ap, aq, hm⟩ := jn_e hm
 refine Cw.join 8 20 [20] (fun l w => ∃ E A, CW.w A = w ∧ Le [] y A ∧ l = [vB E] ∧ ap E = some r) ?_ ?_
 ·rintro _ _ σ ⟨E, A, rfl, F, rfl, hm⟩
  rw [aq] at hm
  have ar := V.n F
  refine cn hm (fun hm => ?_) fun hm => ?_
  ·exact sk (Cw.block (rg (mi rfl (Lw.sub rfl (Ni rfl ((agm) ⟨w64 (b - 1), A, rfl, (z.j F).w, rfl, hm⟩))))))
  ·refine Cw.exit ?_
   rw [ao] at hm
   refine Cw.seq ?_
   obtain ⟨B, au, hm⟩ := ob hm
   obtain ⟨k, av, hm⟩ := ob hm
   refine Cw.par [[], [], [0, 1], [], [], [4], [0, 1, 2, 3, 4, 5], [0, 1, 2, 3, 4, 5, 6]] [[], [], [0, 1], [], [], [4], [2, 3, 5], [6]] [[], [], [3], [], [], [], [3], []] [[0], [1], [2], [3], [4], [5], [6], [6, 7]] [[3], [], [3], [], [], [4], [5], []] [1, 3, 4, 5, 6, 7] [3] [fun vs W => Ow W 3 [] [(vs 0)] ([] : List Head), fun vs W => (vs 1) = d, fun vs W => Ow W 3 [] [(vs 2)] B, fun vs W => (vs 3) = vI b, fun vs W => (vs 4) = .agg [vS x1.Name, vI x1.At].toArray, fun vs W => (vs 5) = .slice (some (bx (pg (vs 5)))) 1 1 ∧ Bx W 4 (pg (vs 5)) [vS x1.Name, vI x1.At], fun vs W => Ow W 5 [] [(vs 6)] k, fun vs W => (vs 7) = (vs 6)] [] mixed (by kernel_rfl) rfl AllF.nil ?_
   intro b8 Y
   have Z := ar.n Y
   refine ⟨(Steps.cons ?_ (Steps.cons ?_ (Steps.cons ?_ (Steps.cons ?_ (Steps.cons ?_ (Steps.cons ?_ (Steps.cons ?_ (Steps.cons ?_ Steps.nil)))))))), (Sups.cons (fun vs vs' W W' _ hv l hd h => by (show Ow W' 3 [] [(vs' 0)] ([] : List Head)); rw [hv 0 (anyb rfl)]; exact h.upv l (disj_mem hd (c := 3) rfl)) (Sups.cons (fun vs vs' W W' _ hv l hd h => by (show (vs' 1) = d); rw [hv 1 (anyb rfl)]; exact h) (Sups.cons (fun vs vs' W W' _ hv l hd h => by (show Ow W' 3 [] [(vs' 2)] B); rw [hv 2 (anyb rfl)]; exact h.upv l (disj_mem hd (c := 3) rfl)) (Sups.cons (fun vs vs' W W' _ hv l hd h => by (show (vs' 3) = vI b); rw [hv 3 (anyb rfl)]; exact h) (Sups.cons (fun vs vs' W W' _ hv l hd h => by (show (vs' 4) = .agg [vS x1.Name, vI x1.At].toArray); rw [hv 4 (anyb rfl)]; exact h) (Sups.cons (fun vs vs' W W' _ hv l hd h => by (show (vs' 5) = .slice (some (bx (pg (vs' 5)))) 1 1 ∧ Bx W' 4 (pg (vs' 5)) [vS x1.Name, vI x1.At]); rw [hv 5 (anyb rfl)]; exact ⟨h.1, h.2.up l (disj_mem hd (c := 4) rfl)⟩) (Sups.cons (fun vs vs' W W' _ hv l hd h => by (show Ow W' 5 [] [(vs' 6)] k); rw [hv 6 (anyb rfl)]; exact h.upv l (disj_mem hd (c := 5) rfl)) (Sups.cons (fun vs vs' W W' _ hv l hd h => by (show (vs' 7) = (vs' 6)); rw [hv 6 (anyb rfl), hv 7 (anyb rfl)]; exact h) Sups.nil)))))))), ?_⟩
   ·intro vs W lW hN
    obtain ⟨b9, aw⟩ : ∃ X, X = W := ⟨W, rfl⟩
    subst aw
    refine Tr.mono (T.lit0 (α := Head) 3 []) ?_
    rintro ax _ ⟨aa, rfl, ay, az⟩
    exact ⟨aa, rfl, ay, (show Ow aa 3 [] [ax] ([] : List Head) from az)⟩
   ·intro vs W lW hN
    obtain ⟨a0, a1⟩ : ∃ X, X = W := ⟨W, rfl⟩
    subst a1
    refine Tr.mono (Run.tr (R.mv (v := d) rfl)) ?_
    rintro _ _ ⟨hu, rfl⟩
    obtain rfl := hu.symm
    exact ⟨a0, rfl, Le.refl _ _, (show (d : Value) = d from rfl)⟩
   ·intro vs W lW hN
    obtain ⟨a3, a4⟩ : ∃ X, X = W := ⟨W, rfl⟩
    subst a4
    have a5 := Z.t lW rfl
    obtain ⟨a6, a7⟩ : ∃ v, vs 0 = v := ⟨_, rfl⟩
    obtain ⟨vs, rfl⟩ := up_eq a7
    have a9 : Ow a3 3 [] [a6] ([] : List Head) := (hN 0 (anyb rfl))
    have G : vs 1 = d := (hN 1 (anyb rfl))
    obtain ⟨vs, rfl⟩ := up_eq G
    refine Tr.mono (T.appP (α := Head) a9 (i.ul a5) rfl rfl au) ?_
    rintro ba _ ⟨ac, rfl, bb, bc⟩
    exact ⟨ac, rfl, bb, (show Ow ac 3 [] [ba] B from bc)⟩
   ·intro vs W lW hN
    obtain ⟨be, bg⟩ : ∃ X, X = W := ⟨W, rfl⟩
    subst bg
    refine Tr.mono (Run.tr (R.mv (v := vI b) rfl)) ?_
    rintro _ _ ⟨hu, rfl⟩
    obtain rfl := hu.symm
    exact ⟨be, rfl, Le.refl _ _, (show (vI b : Value) = vI b from rfl)⟩
   ·intro vs W lW hN
    obtain ⟨bh, bi⟩ : ∃ X, X = W := ⟨W, rfl⟩
    subst bi
    refine Tr.mono (Run.tr (R.lda (cs := [vS x1.Name, vI x1.At]) ((((S.up z).up F).up Y).up lW rfl).cells rfl rfl)) ?_
    rintro _ _ ⟨hu, rfl⟩
    obtain rfl := hu.symm
    exact ⟨bh, rfl, Le.refl _ _, (show (.agg [vS x1.Name, vI x1.At].toArray : Value) = .agg [vS x1.Name, vI x1.At].toArray from rfl)⟩
   ·intro vs W lW hN
    obtain ⟨cb, bj⟩ : ∃ X, X = W := ⟨W, rfl⟩
    subst bj
    have H : vs 4 = .agg [vS x1.Name, vI x1.At].toArray := (hN 4 (anyb rfl))
    obtain ⟨vs, rfl⟩ := up_eq H
    refine Tr.mono (T.bs 4 [.agg [vS x1.Name, vI x1.At].toArray] (cs := [vS x1.Name, vI x1.At]) rfl rfl (bsA rfl)) ?_
    rintro _ _ ⟨I, ae, rfl, rfl, bk, bl⟩
    exact ⟨ae, rfl, bk, (show (.slice (some (bx I)) 1 1 : Value) = .slice (some (bx I)) 1 1 ∧ Bx ae 4 I [vS x1.Name, vI x1.At] from ⟨rfl, bl⟩)⟩
   ·intro vs W lW hN
    obtain ⟨af, bm⟩ : ∃ X, X = W := ⟨W, rfl⟩
    subst bm
    obtain ⟨bn, bp⟩ : ∃ v, vs 2 = v := ⟨_, rfl⟩
    obtain ⟨vs, rfl⟩ := up_eq bp
    have bq : Ow af 3 [] [bn] B := (hN 2 (anyb rfl))
    have J : vs 3 = vI b := (hN 3 (anyb rfl))
    obtain ⟨vs, rfl⟩ := up_eq J
    obtain ⟨f, L⟩ : ∃ f, vs 5 = .slice (some (bx f)) 1 1 := ⟨_, ((hN 5 (anyb rfl))).1⟩
    obtain ⟨vs, rfl⟩ := up_eq L
    have br : Bx af 4 f [vS x1.Name, vI x1.At] := (hN 5 (anyb rfl)).2
    refine Tr.mono (T.call rfl (p106 (k0 := 5) (c0 := 3) bq br (Head.rd (K := [0]) x1.Name x1.At ) rfl rfl av)) ?_
    rintro bu _ ⟨ah, rfl, bv, ⟨_, rfl, bw⟩⟩
    exact ⟨ah, rfl, bv, (show Ow ah 5 [] [bu] k from bw)⟩
   ·intro vs W lW hN
    obtain ⟨ai, bz⟩ : ∃ X, X = W := ⟨W, rfl⟩
    subst bz
    obtain ⟨e, M⟩ : ∃ v, vs 6 = v := ⟨_, rfl⟩
    obtain ⟨vs, rfl⟩ := up_eq M
    have cc : Ow ai 5 [] [e] k := (hN 6 (anyb rfl))
    refine Tr.mono (Run.tr (R.as (v := e) rfl)) ?_
    rintro _ _ ⟨hu, rfl⟩
    obtain rfl := hu.symm
    exact ⟨ai, rfl, Le.refl _ _, (show (e : Value) = e from rfl)⟩
   ·intro vs W lW hN
    obtain ⟨aj, b0⟩ : ∃ X, X = W := ⟨W, rfl⟩
    subst b0
    have b2 := Z.t lW rfl
    obtain ⟨cd, hl83⟩ : ∃ x, x = lW := ⟨lW, rfl⟩
    have G : vs 1 = d := (hN 1 (anyb rfl))
    obtain ⟨vs, rfl⟩ := up_eq G
    have J : vs 3 = vI b := (hN 3 (anyb rfl))
    obtain ⟨vs, rfl⟩ := up_eq J
    have H : vs 4 = .agg [vS x1.Name, vI x1.At].toArray := (hN 4 (anyb rfl))
    obtain ⟨vs, rfl⟩ := up_eq H
    obtain ⟨f, L⟩ : ∃ f, vs 5 = .slice (some (bx f)) 1 1 := ⟨_, ((hN 5 (anyb rfl))).1⟩
    obtain ⟨vs, rfl⟩ := up_eq L
    have ce : Bx aj 4 f [vS x1.Name, vI x1.At] := (hN 5 (anyb rfl)).2
    obtain ⟨e, M⟩ : ∃ v, vs 6 = v := ⟨_, rfl⟩
    obtain ⟨vs, rfl⟩ := up_eq M
    have b3 : Ow aj 5 [] [e] k := (hN 6 (anyb rfl))
    have b4 : vs 7 = e := (hN 7 (anyb rfl))
    obtain ⟨vs, rfl⟩ := up_eq b4
    cases hm
    exact Cw.ret (ret1 rfl (Res.mk b2 ⟨e, rfl, b3.s.sub rfl rfl⟩))
 ·refine Cw.draw [] [(0, 0), (1, 0), (2, 0), (3, 0), (4, 0), (5, 0), (6, 0), (7, 0), (8, 1), (9, 0), (10, 1), (11, 0), (12, 0)] mixed (by kernel_rfl) fun ak C => ?_
  have N := V.n C
  refine Di rfl (Mw.p rfl rfl (fun _ => R.gt rfl rfl) (Db rfl (bs hm (fun a hm => ?_) fun a hm => ?_)))
  ·refine Wp a rfl (fun _ => R.mv (v := d) rfl) (Wp a rfl (fun _ => R.mv (v := vI b) rfl) (Wp a rfl (fun _ => R.sub rfl rfl) ?_))
   obtain ⟨D, O, hm⟩ := ob hm
   exact Wp a rfl (fun _ => R.ix (α := Head) (i.ul N) O rfl rfl rfl) (Wp a rfl (fun _ => R.fa rfl) (Wq a rfl (fun _ c => R.ld rfl rfl (cl_cell (Head.at0 ((i.ul N).at_ O)).1 rfl (Head.at0 ((i.ul N).at_ O)).str c)) (Wp a rfl (fun _ => R.fa rfl) (Wq a rfl (fun _ c => R.ld (v := vS x1.Name) rfl rfl (((S.up z).up C).clc rfl rfl c)) (Wp a rfl (fun _ => R.sgt rfl rfl) (Mw.p rfl rfl (fun _ => R.pk a rfl (v := vB (!(Op.bytesLess D.Name x1.Name || D.Name == x1.Name))) rfl) (Mw.nil ((ag) ⟨(!(Op.bytesLess D.Name x1.Name || D.Name == x1.Name)), ak, rfl, C, rfl, hm⟩))))))))
  ·exact dps 9 a rfl (Mw.p rfl rfl (fun _ => R.pk a rfl (v := vB false) rfl) (Mw.nil ((ag) ⟨false, ak, rfl, C, rfl, hm⟩)))
theorem p88 {x0 b x1 k0 r} (d : Rd W K [b] x0) (f : Rd W K [vS x1.Name, vI x1.At] x1) (hm : Vm.impl_insertHead x0 x1 = some r) : Q1 88 [b, .agg [vS x1.Name, vI x1.At].toArray] W [] fun W' v => ∃ a, v = a ∧ Ow W' k0 [] [a] r :=
 (c88 (d.view _) (f.view _) hm).ad (fk k0) fun _ _ ⟨a, e, h⟩ => ⟨a, e, h.back (fk_LL _)⟩
theorem c58 {x0 k x x1 x2 r} (aj : Ow W0 2 [] [k] x0.Commits) (ak : Ow W0 3 [] [x] x0.Heads) (hm : Vm.impl_Repo_point x0 x1 x2 = some r) : Q0 58 [.agg [k, x].toArray, vS x1, vI x2] W0 fun Wf v => ∃ U V, v = .agg [U, V].toArray ∧ OwS Wf [31] [] [U] r.Commits ∧ OwS Wf [32] [] [V] r.Heads := by
 unfold Vm.impl_Repo_point at hm
 refine CallR.of Tryz.func58 rfl rfl rfl rfl (sr (bo 4 rfl fun g1 W1 F W => ?_))
 have a2 := F.o
 refine al 5 [.slice none 0 0, .slice none 0 0] fun g5 X d b5 => ?_
 have a6 := a2.n d
 have Y := (ak.up F).up d
 refine nl (ssr (fl (W.up d) rfl (Lw.ln x0.Heads Y.rd rfl (mi rfl (nl (Cw.block ?_))))))
 obtain ⟨aq, ar, hm⟩ := jn_e hm
 refine Cw.loop 11 29 [7, 11] (fun m l w => ∃ e y z A Z B C a, CW.w a = w ∧ Le [] X a ∧ l = [Z, vI e] ∧ Ow a 6 [] [B] y ∧ Ow a 7 [] [C] z ∧ Bx a 5 g5 [B, C] ∧ Ow a 3 [] [x] A ∧ Vm.impl_Repo_point_l1 x0 x1 x2 aq m e y z A = some r) _ ⟨0, ([] : List Commit), ([] : List Head), x0.Heads, undef, .slice none 0 0, .slice none 0 0, X, rfl, Le.refl _ _, rfl, owN 6 [], owN 7 [], b5, Y, hm⟩ ?_
 rintro (_ | bn) _ _ σ ⟨e, y, z, A, Z, B, C, a, rfl, D, rfl, au, av, G, b, hm⟩
 ·cases hm
 unfold Vm.impl_Repo_point_l1 at hm
 have aa := a6.n D
 have H := ((aj.up F).up d).up D
 have f := (W.up d).up D
 refine sr (Lw.lt rfl (nl (Cw.seq (cn hm (fun hm => ?_) fun hm => ?_))))
 ·refine sk (Cw.seq (Cw.block (sr (mi rfl (Ni rfl (sr (fl f rfl (mi rfl ?_))))))))
  obtain ⟨bp, ac, hm⟩ := ob hm
  refine Lw.r rfl (R.ix (α := Head) b.rd ac rfl rfl rfl) (Lw.fa rfl (Lw.r rfl (R.ld rfl rfl (Head.at0 (b.rd.at_ ac)).str) (ms rfl (Lw.seq rfl (nl (cn hm (fun hm => ?_) fun hm => ?_))))))
  ·refine sr (fl f rfl (mi rfl (mi rfl ?_)))
   obtain ⟨bq, ae, hm⟩ := ob hm
   refine Lw.r rfl (R.ix (α := Head) b.rd ae rfl rfl rfl) (Lw.fa rfl ?_)
   obtain ⟨br, aw, hm⟩ := ob hm
   refine Lw.u (T.stH (α := Head) (β := Int) (J := []) (Ow.hole (α := Head) (β := Int) (jf := 1) b ae) (OwS.atm (K := []) (rdI _)) aw rfl rfl rfl rfl) ?_
   rintro _ _ ⟨bu, rfl, h, af⟩
   have ax := aa.t h
   refine nl (sr (la (f.up h) (sta (G.up h) (oc_cons (H.up h).oc (oc_cons af.oc oc_nil)) fun bv I ay => ?_)))
   have az := ax.t I
   refine nl ?_
   obtain ⟨bw, a0, L, a1⟩ := ((H.up h).up I).dyeO 31
   have a3 := az.t L
   obtain ⟨bz, a4, N, a5⟩ := ((af.up I).up L).dyeO 32
   have a7 := a3.t N
   cases hm
   rw [← a4.trans (a0)]
   exact Cw.ret (retA1 rfl ((ay.up L).up N) (Res.mk a7 ⟨k, x, rfl, (a1.up N).s, a5.s⟩))
  ·exact sk (rg (Lw.add rfl (mi rfl (nl ((agm) ⟨w64 (e + 1), y, z, A, vI e, B, C, a, rfl, D, rfl, au, av, G, b, hm⟩)))))
 ·refine Cw.exit ?_
  rw [ar] at hm
  refine sr (fl f rfl (ms rfl (mi rfl (Lw.r rfl (R.bd (zs := [vS ([] : Str), vI 0]) (cs := [vS x1, vI x2]) [(0, vS x1), (1, vI x2)] rfl rfl rfl (bp_cons rfl rfl (bp_cons rfl rfl bp_nil))) (cr hm (fun _ => p88 (K := [0, 3]) (k0 := 8) (x1 := (Vm.Head.mk x1 x2)) (b.rd.sub (M := [0, 3]) rfl) ((Head.rd (K := [0]) x1 x2 ).sub (M := [0, 3]) rfl)) ?_)))))
  rintro b0 ah b2 hm E ⟨_, rfl, O⟩
  have a8 := aa.n E
  refine Lw.fa rfl (Lw.u (T.st (j := 1) (v := ah) (f.up E) rfl rfl O.oc rfl rfl) ?_)
  rintro _ _ ⟨b3, rfl, i, a9⟩
  have ba := a8.t i
  have ai := (H.up E).up i
  refine nl (sr (la a9 (sta ((G.up E).up i) (oc_cons ai.oc (oc_cons (O.up i).oc oc_nil)) fun b4 P bb => ?_)))
  have bc := ba.t P
  refine nl ?_
  obtain ⟨b6, be, Q, bg⟩ := (ai.up P).dyeO 31
  have bh := bc.t Q
  obtain ⟨b7, bi, S, bj⟩ := (((O.up i).up P).up Q).dyeO 32
  have bk := bh.t S
  cases hm
  rw [← bi.trans (be)]
  exact Cw.ret (retA1 rfl ((bb.up Q).up S) (Res.mk bk ⟨k, ah, rfl, (bg.up S).s, bj.s⟩))
theorem p58 {x0 d f x1 x2 k0 k1 c0 c1 r} (h : Ow W c0 [] [d] x0.Commits) (i : Ow W c1 [] [f] x0.Heads) (hJ : okJ K [c0, c1] = true) (hm : Vm.impl_Repo_point x0 x1 x2 = some r) : Q1 58 [.agg [d, f].toArray, vS x1, vI x2] W [c0, c1] fun W' v => ∃ a b, v = .agg [a, b].toArray ∧ Ow W' k0 [] [a] r.Commits ∧ Ow W' k1 [] [b] r.Heads :=
 CallR.adJ (J := [c0, c1]) (fun c => bif Nat.beq c 0 then 0 else bif Nat.beq c 2 then c0 else bif Nat.beq c 3 then c1 else bif Nat.beq c 31 then k0 else bif Nat.beq c 32 then k1 else 0) (c58 (h.viewJ 0 hJ) (i.viewJ 1 hJ) hm) fun _ _ ⟨a, b, e, k, x⟩ => ⟨a, b, e, k.one1.backN rfl, x.one1.backN rfl⟩
theorem c61 {x0 b d x1 r} (x : Rd W0 [0] [b, d] x0) (hm : Vm.impl_Repo_tree x0 x1 = some r) : Q0 61 [.agg [b, d].toArray, vI x1] W0 fun Wf v => ∃ e, v = e ∧ Rd Wf [0] [e] r := by
 unfold Vm.impl_Repo_tree at hm
 obtain ⟨A, B, f, h, C⟩ := Repo.split x
 simp only [List.cons.injEq, and_true, true_and] at f
 obtain ⟨rfl, rfl⟩ := f
 refine CallR.of Tryz.func61 rfl rfl rfl rfl (sr (bo 2 rfl fun D E y z => ?_))
 have a := y.o
 refine Nv (.slice none 0 0) rfl (ssr (mi rfl (Lw.lt rfl (nl (cn hm (fun hm => ?_) fun hm => ?_)))))
 ·refine sr (Nv (.slice none 0 0) rfl ?_)
  cases hm
  exact Cw.ret (ret1 rfl (Res.mk a ⟨.slice none 0 0, rfl, (rdN (K := [0]))⟩))
 ·refine sk (sr (fl z rfl (mi rfl ?_)))
  obtain ⟨F, i, hm⟩ := ob hm
  refine Lw.r rfl (R.ix (α := Commit) (h.ul a) i rfl rfl rfl) (Lw.fa rfl ?_)
  obtain ⟨k, c8, r9⟩ := (Commit.at2 ((h.ul a).at_ i)).cell rfl
  refine Lw.r rfl (R.ld rfl rfl c8) (Nv k rfl ?_)
  cases hm
  exact Cw.ret (ret1 rfl (Res.mk a ⟨k, rfl, r9⟩))
theorem p61 {x0 b d x1 r} (f : Rd W K [b, d] x0) (hm : Vm.impl_Repo_tree x0 x1 = some r) : Q1 61 [.agg [b, d].toArray, vI x1] W [] fun W' v => ∃ a, v = a ∧ Rd W' (0 :: K) [a] r :=
 (c61 (f.view _) hm).ad (fk 0) fun _ _ ⟨a, e, h⟩ => ⟨a, e, h.back rfl⟩
theorem c89 {x0 e x1 f x2 h r} (B : Rd W0 [0] [e] x0) (C : Rd W0 [0] [f] x1) (D : Rd W0 [0] [h] x2) (i : Gl 0 W0 [0]) (hm : Vm.impl_areTrees x0 x1 x2 = some r) : Q0 89 [e, f, h] W0 fun Wf v => v = vB r := by
 unfold Vm.impl_areTrees at hm
 refine CallR.of Tryz.func89 rfl rfl rfl rfl (sr (Nb rfl ?_))
 obtain ⟨E, F, hm⟩ := jn_e hm
 refine Cw.join 7 16 [6] (fun l w => ∃ k x, CW.w x = w ∧ Le [] W0 x ∧ l = [vB k] ∧ E k = some r) ?_ ?_
 ·rintro _ _ σ ⟨k, x, rfl, G, rfl, hm⟩
  rw [F] at hm
  have H := G.o
  exact .ret (rt hm H)
 ·refine rg (mv e rfl (ca hm (fun _ => p51 B i) fun N I hm d => ?_))
  have y := d.o
  refine mb rfl (bs hm (fun a hm => ?_) fun a hm => ?_)
  ·refine wak 2 a (mv f rfl (ca hm (fun _ => p51 (C.ul y) (i.ul y)) fun O J hm z => ?_))
   have A := y.n z
   refine Pb a rfl (mb rfl (bs hm (fun b hm => ?_) fun b hm => ?_))
   ·exact wak 2 b (mv h rfl (ca hm (fun _ => p51 (D.ul A) (i.ul A)) fun K L hm M => Pb b rfl (Nb rfl ((ag) ⟨K, L, rfl, ((d.j z).j M).w, rfl, hm⟩))))
   ·exact psk 2 b rfl (Pb b rfl (Nb rfl ((ag) ⟨false, J, rfl, (d.j z).w, rfl, hm⟩)))
  ·exact psk 2 a rfl (Pb a rfl (mb rfl (psk 2 rfl rfl (Pb rfl rfl (Nb rfl ((ag) ⟨false, I, rfl, d, rfl, hm⟩))))))
theorem p89 {x0 a x1 b x2 d r} (f : Rd W K [a] x0) (h : Rd W K [b] x1) (i : Rd W K [d] x2) (k : Gl 0 W K) (hm : Vm.impl_areTrees x0 x1 x2 = some r) : Q1 89 [a, b, d] W [] fun W' v => v = vB r :=
 (c89 (f.view _) (h.view _) (i.view _) (k.view _) hm).ad (fk 0) fun _ _ e => e
theorem c107 {x0 x r} (y : Rd W0 [0] [x] x0) (hm : Vm.impl_allPaths x0 = some r) : Q0 107 [x] W0 fun Wf v => ∃ E, v = E ∧ OwS Wf LL [] [E] r := by
 unfold Vm.impl_allPaths at hm
 refine CallR.of Tryz.func107 rfl rfl rfl rfl (sr (Nv (.slice none 0 0) rfl (sr (Nv (.slice none 0 0) rfl (ssr (mv x rfl (Lw.ln x0 y rfl (mi rfl (nl (Cw.block ?_))))))))))
 obtain ⟨W, X, hm⟩ := jn_e hm
 refine Cw.loop 10 26 [3, 5, 7, 10] (fun m l w => ∃ f h a F z b, CW.w b = w ∧ Le [2, 3] W0 b ∧ l = [a, F, z, vI h] ∧ Ow b 2 [] [a] f ∧ Vm.impl_allPaths_l1 x0 W m f h = some r) _ ⟨([] : List Str), 0, .slice none 0 0, undef, undef, W0, rfl, Le.refl _ _, rfl, owN 2 [], hm⟩ ?_
 rintro (_ | m9) _ _ σ ⟨f, h, a, F, z, b, rfl, G, rfl, H, hm⟩
 ·cases hm
 unfold Vm.impl_allPaths_l1 at hm
 have A := G.s
 refine sr (Lw.lt rfl (nl (Cw.seq (cn hm (fun hm => ?_) fun hm => ?_))))
 ·refine sk (Cw.seq (Cw.block (sr ?_)))
  obtain ⟨I, J, hm⟩ := ob hm
  refine Lw.r rfl (R.ix (α := List File) (y.ul A) J rfl rfl rfl) ?_
  obtain ⟨B, c16, r17⟩ := ((y.ul A).at_ J).cell rfl
  refine Lw.r rfl (R.ld rfl rfl c16) (Nv B rfl (sr (mv B rfl (Lw.ln I r17 rfl (mi rfl (nl (Cw.block ?_)))))))
  obtain ⟨Y, Z, hm⟩ := jn_e hm
  refine Cw.loop 16 25 [3, 7, 16] (fun m l w => ∃ i k d C e, CW.w e = w ∧ Le [2, 3] b e ∧ l = [d, C, vI k] ∧ Ow e 2 [] [d] i ∧ Vm.impl_allPaths_l2 I Y m i k = some r) _ ⟨f, 0, a, z, b, rfl, Le.refl _ _, rfl, H, hm⟩ ?_
  rintro (_ | aw) _ _ σ ⟨i, k, d, C, e, rfl, D, rfl, L, hm⟩
  ·cases hm
  unfold Vm.impl_allPaths_l2 at hm
  have M := D.s
  refine sr (Lw.lt rfl (nl (Cw.seq (cn hm (fun hm => ?_) fun hm => ?_))))
  ·refine sk (Cw.seq (Cw.block (sr ?_)))
   obtain ⟨N, O, hm⟩ := ob hm
   refine Lw.r rfl (R.ix (α := File) (r17.ul M) O rfl rfl rfl) ?_
   obtain ⟨x31, c32, _, r33⟩ := ((r17.ul M).at_ O).cells
   obtain ⟨ax, rfl, r35⟩ := File.split r33
   refine Lw.r rfl (R.lda c32 rfl rfl) (al 3 [vS ([] : Str), .slice none 0 0] fun aa ay P ac => sta ac (oc_cons rfl (oc_cons r35.oc oc_nil)) fun az Q ae => nl (rg (mv d rfl (fl ae rfl (Lw.t rfl (T.bs 4 [vS N.Path] (cs := [vS N.Path]) rfl rfl (bsv rfl)) ?_)))))
   rintro _ _ ⟨a0, a1, rfl, rfl, S, af⟩
   obtain ⟨ah, ai, hm⟩ := ob hm
   refine Lw.t rfl (T.app1S (α := Str) (K' := []) (((L.up P).up Q).up S) af (rdS _) rfl rfl ai) ?_
   rintro U _ ⟨aj, rfl, ak, am⟩
   exact Nv U rfl (rg (Lw.add rfl (mi rfl (nl ((agm) ⟨ah, w64 (k + 1), U, ptr (bx aa), aj, rfl, ((((D.j P).j Q).j S).j ak).w, rfl, am, hm⟩)))))
  ·refine Cw.exit ?_
   rw [Z] at hm
   exact rg (Lw.add rfl (mi rfl (nl ((agm) ⟨i, w64 (h + 1), d, B, C, e, rfl, (G.j D).w, rfl, L, hm⟩))))
 ·refine Cw.exit ?_
  rw [X] at hm
  refine sr (mv a rfl (cr hm (fun _ => p124 (K := [0]) (c0 := 2) H rfl) ?_))
  rintro a2 _ a3 hm an ⟨rfl, ao⟩
  have ap := A.t an
  refine nl (sr (mv a rfl (cr hm (fun _ => p125 (K := [0]) (k0 := 5) (c0 := 2) ao rfl) ?_)))
  rintro a4 V a5 hm aq ⟨_, rfl, ar⟩
  have au := ap.t aq
  refine Nv V rfl ?_
  cases hm
  exact Cw.ret (ret1 rfl (Res.mk au ⟨V, rfl, ar.s.sub rfl rfl⟩))
theorem p107 {x0 b k0 r} (d : Rd W K [b] x0) (hm : Vm.impl_allPaths x0 = some r) : Q1 107 [b] W [] fun W' v => ∃ a, v = a ∧ Ow W' k0 [] [a] r :=
 (c107 (d.view _) hm).ad (fk k0) fun _ _ ⟨a, e, f⟩ => ⟨a, e, f.back (fk_LL _)⟩
theorem c128 {x0 i x1 r} (k : Rd W0 [0] [i] x0) (hm : Vm.impl_get x0 x1 = some r) : Q0 128 [i, vS x1] W0 fun Wf v => ∃ z, v = .tuple [z, vB r.2].toArray ∧ OwS Wf LL [] [z] r.1 := by
 unfold Vm.impl_get at hm
 refine CallR.of Tryz.func128 rfl rfl rfl rfl (sr (Gv (.slice none 0 0) rfl (Nb rfl (ssr (mv i rfl (Lw.ln x0 k rfl (mi rfl (nl (Cw.block ?_)))))))))
 obtain ⟨H, I, hm⟩ := jn_e hm
 refine Cw.loop 10 21 [4, 5, 7, 10] (fun m l w => ∃ a b d e A f, CW.w f = w ∧ Le [3] W0 f ∧ l = [e, vB b, A, vI d] ∧ Ow f 2 [] [e] a ∧ Vm.impl_get_l1 x0 x1 H m a b d = some r) _ ⟨([] : List Str), false, 0, .slice none 0 0, undef, W0, rfl, Le.refl _ _, rfl, owN 2 [], hm⟩ ?_
 rintro (_ | Q) _ _ σ ⟨a, b, d, e, A, f, rfl, B, rfl, J, hm⟩
 ·cases hm
 unfold Vm.impl_get_l1 at hm
 have h := B.s
 refine sr (Lw.lt rfl (nl (Cw.seq (cn hm (fun hm => ?_) fun hm => ?_))))
 ·refine sk (Cw.seq (Cw.block (sr ?_)))
  obtain ⟨S, C, hm⟩ := ob hm
  refine Lw.r rfl (R.ix (α := File) (k.ul h) C rfl rfl rfl) ?_
  obtain ⟨x15, c16, _, r17⟩ := ((k.ul h).at_ C).cells
  obtain ⟨T, rfl, r19⟩ := File.split r17
  refine Lw.r rfl (R.lda c16 rfl rfl) (al 3 [vS ([] : Str), .slice none 0 0] fun K U x L => ?_)
  have D := x.o
  refine sta L (oc_cons rfl (oc_cons r19.oc oc_nil)) fun M y E => ?_
  have F := y.s
  refine nl (sr (fl E rfl (ms rfl (Lw.seq rfl (nl (cn hm (fun hm => ?_) fun hm => ?_))))))
  ·refine sr (fl E rfl (cr hm (fun _ => p105 (k0 := 4) (r19.ul (D.trans F))) ?_))
   rintro V G W hm N ⟨_, rfl, O⟩
   have P := ((h.trans D).trans F).n N
   refine Gv G rfl (Nb rfl ?_)
   cases hm
   exact Cw.ret (ret2 rfl rfl (Res.mk P ⟨G, rfl, O.s.sub rfl rfl⟩))
  ·exact sk (rg (Lw.add rfl (mi rfl (nl ((agm) ⟨a, b, w64 (d + 1), e, ptr (bx K), M, rfl, ((B.j x).j y).w, rfl, ((J.up x).up y), hm⟩)))))
 ·refine Cw.exit ?_
  rw [I] at hm
  refine sr (Gv (.slice none 0 0) rfl (Nb rfl ?_))
  cases hm
  exact Cw.ret (ret2 rfl rfl (Res.mk h ⟨.slice none 0 0, rfl, (owsN []).sub rfl rfl⟩))
theorem p128 {x0 b x1 k0 r} (d : Rd W K [b] x0) (hm : Vm.impl_get x0 x1 = some r) : Q1 128 [b, vS x1] W [] fun W' v => ∃ a, v = .tuple [a, vB r.2].toArray ∧ Ow W' k0 [] [a] r.1 :=
 (c128 (d.view _) hm).ad (fk k0) fun _ _ ⟨a, e, f⟩ => ⟨a, e, f.back (fk_LL _)⟩
theorem c109 {x0 d x1 r} (x : Rd W0 [0] [d] x0) (hm : Vm.impl_hasAt x0 x1 = some r) : Q0 109 [d, vS x1] W0 fun Wf v => ∃ f, v = .agg [f, vB r.file].toArray ∧ OwS Wf LL [] [f] r.text := by
 unfold Vm.impl_hasAt at hm
 refine CallR.of Tryz.func109 rfl rfl rfl rfl (sr (al 2 [.slice none 0 0, vB false] fun D E y z => ?_))
 have h := y.o
 refine nl (sr (mv d rfl (ms rfl (cr hm (fun _ => p128 (k0 := 3) (x.ul h)) ?_))))
 rintro b _ F hm i ⟨a, rfl, e⟩
 have A := h.n i
 refine mv (.tuple [a, vB b.2].toArray) rfl (Lw.r rfl (R.ext (vs := [a, vB b.2]) (v := a) rfl rfl) (Lw.r rfl (R.ext (vs := [a, vB b.2]) (v := vB b.2) rfl rfl) (Gv a rfl (Nb rfl (sr (mv a rfl (mb rfl (Lw.r rfl (R.bd (zs := [.slice none 0 0, vB false]) (cs := [a, vB b.2]) [(0, a), (1, vB b.2)] rfl rfl rfl (bp_cons e.oc rfl (bp_cons rfl rfl bp_nil))) (sta (z.up i) (oc_cons e.oc (oc_cons rfl oc_nil)) fun G k B => ?_)))))))))
 have C := A.t k
 refine nl ?_
 cases hm
 exact Cw.ret (retA1 rfl B (Res.mk C ⟨a, rfl, (e.up k).s.sub rfl rfl⟩))
theorem p109 {x0 b x1 k0 r} (d : Rd W K [b] x0) (hm : Vm.impl_hasAt x0 x1 = some r) : Q1 109 [b, vS x1] W [] fun W' v => ∃ a, v = .agg [a, vB r.file].toArray ∧ Ow W' k0 [] [a] r.text :=
 (c109 (d.view _) hm).ad (fk k0) fun _ _ ⟨a, e, f⟩ => ⟨a, e, f.back (fk_LL _)⟩
theorem c140 {x0 b x1 f r} (d : Rd W0 [0] [b] x0) (h : Rd W0 [0] [f] x1) (hm : Vm.slices_Equal_string_string x0 x1 = some r) : Q0 140 [b, f] W0 fun Wf v => v = vB r := by
 unfold Vm.slices_Equal_string_string at hm
 refine CallR.of Tryz.func140 rfl rfl rfl rfl (sr (Nb rfl (ssr (mv b rfl (Lw.ln x0 d rfl (mv f rfl (Lw.ln x1 h rfl (Lw.ne rfl (nl (cn hm (fun hm => ?_) fun hm => ?_))))))))))
 ·exact sr (Nb rfl (.ret (rt hm (Le.refl _ _))))
 ·refine sk (ssr (mv b rfl (Lw.ln x0 d rfl (mi rfl (nl (Cw.block ?_))))))
  obtain ⟨C, D, hm⟩ := jn_e hm
  refine Cw.loop 13 25 [4, 5, 13] (fun m l w => ∃ i e z k, CW.w k = w ∧ Le [] W0 k ∧ l = [vB i, z, vI e] ∧ Vm.slices_Equal_string_string_l1 x0 x1 C m i e = some r) _ ⟨false, 0, undef, W0, rfl, Le.refl _ _, rfl, hm⟩ ?_
  rintro (_ | F) _ _ σ ⟨i, e, z, k, rfl, A, rfl, hm⟩
  ·cases hm
  unfold Vm.slices_Equal_string_string_l1 at hm
  have B := A.o
  refine sr (Lw.lt rfl (nl (Cw.seq (cn hm (fun hm => ?_) fun hm => ?_))))
  ·refine sk (Cw.seq (Cw.block (sr (mi rfl (Ni rfl (Cw.seq (Cw.draw [] [(0, 0), (1, 0), (2, 0), (3, 1), (4, 0), (5, 0), (6, 0), (7, 1), (8, 0)] mixed (by kernel_rfl) fun E l10 => ?_)))))))
   have a := B.n l10
   refine Dv b rfl (Di rfl ?_)
   obtain ⟨G, x, hm⟩ := ob hm
   refine Mw.p rfl rfl (fun _ => R.ix (α := Str) (d.ul a) x rfl rfl rfl) (Mw.q rfl rfl (fun _ c => R.ld rfl rfl (cl_cell ((d.ul a).at_ x).1 rfl ((d.ul a).at_ x).str c)) (Dv f rfl (Di rfl ?_)))
   obtain ⟨H, y, hm⟩ := ob hm
   refine Mw.p rfl rfl (fun _ => R.ix (α := Str) (h.ul a) y rfl rfl rfl) (Mw.q rfl rfl (fun _ c => R.ld rfl rfl (cl_cell ((h.ul a).at_ y).1 rfl ((h.ul a).at_ y).str c)) (Mw.p rfl rfl (fun _ => R.sne rfl rfl) (Mw.nil (cn hm (fun hm => ?_) fun hm => ?_))))
   ·exact sr (Nb rfl (.ret (rt hm a)))
   ·exact sk (rg (Lw.add rfl (mi rfl (nl ((agm) ⟨i, w64 (e + 1), vI e, E, rfl, (A.j l10).w, rfl, hm⟩)))))
  ·refine Cw.exit ?_
   rw [D] at hm
   exact sr (Nb rfl (.ret (rt hm B)))
theorem p140 {x0 a x1 b r} (d : Rd W K [a] x0) (f : Rd W K [b] x1) (hm : Vm.slices_Equal_string_string x0 x1 = some r) : Q1 140 [a, b] W [] fun W' v => v = vB r :=
 (c140 (d.view _) (f.view _) hm).ad (fk 0) fun _ _ e => e
theorem c126 {x0 h x1 i r} (B : Rd W0 [0] [h, vB x0.file] x0) (C : Rd W0 [0] [i, vB x1.file] x1) (hm : Vm.impl_has_same x0 x1 = some r) : Q0 126 [.agg [h, vB x0.file].toArray, .agg [i, vB x1.file].toArray] W0 fun Wf v => v = vB r := by
 unfold Vm.impl_has_same at hm
 obtain ⟨O, k, D⟩ := has.split B
 simp only [List.cons.injEq, and_true, true_and] at k
 obtain rfl := k
 obtain ⟨P, x, E⟩ := has.split C
 simp only [List.cons.injEq, and_true, true_and] at x
 obtain rfl := x
 refine CallR.of Tryz.func126 rfl rfl rfl rfl (sr (bo 2 rfl fun Q S F y => ?_))
 have G := F.o
 refine bo 3 rfl fun T z b A => ?_
 have d := G.n b
 refine Nb rfl ?_
 obtain ⟨H, I, hm⟩ := jn_e hm
 refine Cw.join 5 16 [4] (fun l w => ∃ e f, CW.w f = w ∧ Le [] z f ∧ l = [vB e] ∧ H e = some r) ?_ ?_
 ·rintro _ _ σ ⟨e, f, rfl, J, rfl, hm⟩
  rw [I] at hm
  have K := d.n J
  exact .ret (rt hm K)
 ·refine rg (fl (y.up b) rfl (fl A rfl (Lw.r rfl (R.beq rfl rfl) (mb rfl (bs hm (fun a hm => ?_) fun a hm => ?_)))))
  ·exact wak 5 a (fl (y.up b) rfl (fl A rfl (ca hm (fun _ => p140 (D.ul d) (E.ul d)) fun L M hm N => Pb a rfl (Nb rfl ((ag) ⟨L, M, rfl, N, rfl, hm⟩)))))
  ·exact psk 5 a rfl (Pb a rfl (Nb rfl ((ag) ⟨false, z, rfl, Le.refl _ _, rfl, hm⟩)))
theorem p126 {x0 a x1 b r} (d : Rd W K [a, vB x0.file] x0) (f : Rd W K [b, vB x1.file] x1) (hm : Vm.impl_has_same x0 x1 = some r) : Q1 126 [.agg [a, vB x0.file].toArray, .agg [b, vB x1.file].toArray] W [] fun W' v => v = vB r :=
 (c126 (d.view _) (f.view _) hm).ad (fk 0) fun _ _ e => e
theorem c160 {x0 e x1 f x2 h r} (z : Rd W0 [0] [e] x0) (A : Rd W0 [0] [f] x1) (B : Rd W0 [0] [h] x2) (hm : Vm.impl_areTexts x0 x1 x2 = some r) : Q0 160 [e, f, h] W0 fun Wf v => v = vB r := by
 unfold Vm.impl_areTexts at hm
 refine CallR.of Tryz.func160 rfl rfl rfl rfl (sr (Nb rfl ?_))
 obtain ⟨C, D, hm⟩ := jn_e hm
 refine Cw.join 7 16 [6] (fun l w => ∃ i k, CW.w k = w ∧ Le [] W0 k ∧ l = [vB i] ∧ C i = some r) ?_ ?_
 ·rintro _ _ σ ⟨i, k, rfl, E, rfl, hm⟩
  rw [D] at hm
  have F := E.o
  exact .ret (rt hm F)
 ·refine rg (mv e rfl (ca hm (fun _ => p84 z) fun M G hm d => ?_))
  have y := d.o
  refine mb rfl (bs hm (fun a hm => ?_) fun a hm => ?_)
  ·refine wak 2 a (mv f rfl (ca hm (fun _ => p84 (A.ul y)) fun N H hm x => ?_))
   have I := y.n x
   refine Pb a rfl (mb rfl (bs hm (fun b hm => ?_) fun b hm => ?_))
   ·exact wak 2 b (mv h rfl (ca hm (fun _ => p84 (B.ul I)) fun J K hm L => Pb b rfl (Nb rfl ((ag) ⟨J, K, rfl, ((d.j x).j L).w, rfl, hm⟩))))
   ·exact psk 2 b rfl (Pb b rfl (Nb rfl ((ag) ⟨false, H, rfl, (d.j x).w, rfl, hm⟩)))
  ·exact psk 2 a rfl (Pb a rfl (mb rfl (psk 2 rfl rfl (Pb rfl rfl (Nb rfl ((ag) ⟨false, G, rfl, d, rfl, hm⟩))))))
theorem p160 {x0 a x1 b x2 d r} (f : Rd W K [a] x0) (h : Rd W K [b] x1) (i : Rd W K [d] x2) (hm : Vm.impl_areTexts x0 x1 x2 = some r) : Q1 160 [a, b, d] W [] fun W' v => v = vB r :=
 (c160 (f.view _) (h.view _) (i.view _) hm).ad (fk 0) fun _ _ e => e
theorem c178 {x0 k x1 x r} (y : Rd W0 [0] [k] x0) (z : Rd W0 [0] [x] x1) (hm : Vm.impl_lcs x0 x1 = some r) : Q0 178 [k, x] W0 fun Wf v => ∃ u0, v = u0 ∧ OwS Wf LL [] [u0] r := by
 unfold Vm.impl_lcs at hm
 refine CallR.of Tryz.func178 rfl rfl rfl rfl (sr (Nv (.slice none 0 0) rfl (sr (mv k rfl (Lw.ln x0 y rfl (Lw.add rfl ?_))))))
 obtain ⟨M, e2, hm⟩ := ob hm
 refine Lw.t rfl (T.mk (α := List Int) 2 [] (n := w64 ((x0.length : Int) + 1)) rfl rfl e2) ?_
 rintro a _ ⟨W3, rfl, l3, o3⟩
 have a4 := l3.o
 refine Nv a rfl (ssr (mv a rfl (Lw.ln M o3.rd rfl (mi rfl (nl (Cw.block ?_))))))
 obtain ⟨a1, a2, hm⟩ := jn_e hm
 refine Cw.loop 15 25 [6, 15] (fun m l w => ∃ A F j5 e, CW.w e = w ∧ Le [2, 3] W3 e ∧ l = [j5, vI A] ∧ Ow e 2 [] [a] F ∧ Vm.impl_lcs_l1 x1 M a1 m A F = some r) _ ⟨0, M, undef, W3, rfl, Le.refl _ _, rfl, o3, hm⟩ ?_
 rintro (_ | ce) _ _ σ ⟨A, F, j5, e, rfl, l9, rfl, N, hm⟩
 ·cases hm
 unfold Vm.impl_lcs_l1 at hm
 have O := a4.t l9
 refine sr (Lw.lt rfl (nl (Cw.seq (cn hm (fun hm => ?_) fun hm => ?_))))
 ·refine sk (Cw.seq (Cw.block (sr (mi rfl (Ni rfl (rg (mv a rfl (mi rfl (mv x rfl (Lw.ln x1 (z.ul O) rfl (Lw.add rfl ?_)))))))))))
  obtain ⟨cf, a3, hm⟩ := ob hm
  refine Lw.t rfl (T.mk (α := Int) 3 [] (n := w64 ((x1.length : Int) + 1)) rfl rfl a3) ?_
  rintro cg _ ⟨ch, rfl, P, am⟩
  obtain ⟨ci, a5, hm⟩ := ob hm
  refine Lw.r rfl (R.ix (α := List Int) (N.up P).rd a5 rfl rfl rfl) ?_
  obtain ⟨a6, a7, hm⟩ := ob hm
  refine Lw.u (T.stO (J := [3]) (N.up P) am.s a7 rfl rfl (cells_list am.oc)) ?_
  rintro _ _ ⟨a8, rfl, a9, ba⟩
  exact nl (rg (Lw.add rfl (mi rfl (nl ((agm) ⟨w64 (A + 1), a6, vI A, a8, rfl, ((l9.j P).j a9).w, rfl, ba, hm⟩)))))
 ·refine Cw.exit ?_
  rw [a2] at hm
  refine ssr (mv k rfl (Lw.ln x0 (y.ul O) rfl (Lw.sub rfl (Ni rfl (Cw.block ?_)))))
  obtain ⟨bb, bc, hm⟩ := jn_e hm
  refine Cw.loop 29 87 [7, 8] (fun m l w => ∃ B G an f, CW.w f = w ∧ Le [2, 4, 5] e f ∧ l = [vI B, an] ∧ Ow f 2 [] [a] G ∧ Vm.impl_lcs_l2 x0 x1 bb m B G = some r) _ ⟨w64 ((x0.length : Int) - 1), F, undef, e, rfl, Le.refl _ _, rfl, N, hm⟩ ?_
  rintro (_ | cj) _ _ σ ⟨B, G, an, f, rfl, ao, rfl, ap, hm⟩
  ·cases hm
  unfold Vm.impl_lcs_l2 at hm
  have Q := O.t ao
  refine ssr (mi rfl (Lw.ge rfl (nl (cn hm (fun hm => ?_) fun hm => ?_))))
  ·refine sk (Cw.seq (Cw.block (sr (mv x rfl (Lw.ln x1 (z.ul Q) rfl (Lw.sub rfl (Ni rfl (Cw.block ?_))))))))
   obtain ⟨be, bg, hm⟩ := jn_e hm
   refine Cw.loop 36 87 [8] (fun m l w => ∃ C H h, CW.w h = w ∧ Le [2, 4, 5] f h ∧ l = [vI C] ∧ Ow h 2 [] [a] H ∧ Vm.impl_lcs_l3 x0 x1 B be m C H = some r) _ ⟨w64 ((x1.length : Int) - 1), G, f, rfl, Le.refl _ _, rfl, ap, hm⟩ ?_
   rintro (_ | ck) _ _ σ ⟨C, H, h, rfl, S, rfl, U, hm⟩
   ·cases hm
   unfold Vm.impl_lcs_l3 at hm
   have bh := Q.t S
   refine ssr (mi rfl (Lw.ge rfl (nl (cn hm (fun hm => ?_) fun hm => ?_))))
   ·refine sk ?_
    obtain ⟨bi, bj, hm⟩ := jn_e hm
    refine Cw.join 40 87 [] (fun l w => ∃ I D, CW.w D = w ∧ Le [2, 4, 5] h D ∧ l = [] ∧ Ow D 2 [] [a] I ∧ bi I = some r) ?_ ?_
    ·rintro _ _ σ ⟨I, D, rfl, bk, rfl, bl, hm⟩
     rw [bj] at hm
     exact rg (mi rfl (Lw.sub rfl (Ni rfl ((agm) ⟨w64 (C - 1), I, D, rfl, (S.j bk).w, rfl, bl, hm⟩))))
    ·refine Cw.block (Cw.seq (Cw.draw [] [(0, 0), (1, 0), (2, 0), (3, 1), (4, 0), (5, 0), (6, 0), (7, 1), (8, 0)] mixed (by kernel_rfl) fun cl E => ?_))
     have i := bh.n E
     refine Dv k rfl (Di rfl ?_)
     obtain ⟨cm, V, hm⟩ := ob hm
     refine Mw.p rfl rfl (fun _ => R.ix (α := Str) (y.ul i) V rfl rfl rfl) (Mw.q rfl rfl (fun _ c => R.ld rfl rfl (cl_cell ((y.ul i).at_ V).1 rfl ((y.ul i).at_ V).str c)) (Dv x rfl (Di rfl ?_)))
     obtain ⟨co, W, hm⟩ := ob hm
     refine Mw.p rfl rfl (fun _ => R.ix (α := Str) (z.ul i) W rfl rfl rfl) (Mw.q rfl rfl (fun _ c => R.ld rfl rfl (cl_cell ((z.ul i).at_ W).1 rfl ((z.ul i).at_ W).str c)) (Mw.p rfl rfl (fun _ => R.seq rfl rfl) (Mw.nil (cn hm (fun hm => ?_) fun hm => ?_))))
     ·refine Cw.draw [] [(0, 0), (1, 0), (2, 0), (3, 1), (4, 0), (5, 0), (6, 0), (7, 0), (8, 0), (9, 1), (10, 0), (11, 0), (12, 0), (13, 1), (14, 0), (15, 0), (16, 3)] mixed (by kernel_rfl) fun cp aq => ?_
      have d := (U.up E).up aq
      refine Dv a rfl (Di rfl ?_)
      obtain ⟨cq, K, hm⟩ := ob hm
      refine Mw.p rfl rfl (fun _ => R.ix (α := List Int) d.rd K rfl rfl rfl) ?_
      obtain ⟨cs, c66, r67⟩ := (d.rd.at_ K).cell rfl
      refine Mw.q rfl rfl (fun _ c => R.ld rfl rfl (cl_cell (d.rd.at_ K).1 rfl c66 c)) (Di rfl (Dv a rfl (Di rfl (Mw.p rfl rfl (fun _ => R.add rfl rfl) ?_))))
      obtain ⟨ct, X, hm⟩ := ob hm
      refine Mw.p rfl rfl (fun _ => R.ix (α := List Int) d.rd X rfl rfl rfl) ?_
      obtain ⟨cu, c71, r72⟩ := (d.rd.at_ X).cell rfl
      refine Mw.q rfl rfl (fun _ c => R.ld rfl rfl (cl_cell (d.rd.at_ X).1 rfl c71 c)) (Di rfl (Mw.p rfl rfl (fun _ => R.add rfl rfl) ?_))
      obtain ⟨cv, Y, hm⟩ := ob hm
      refine Mw.p rfl rfl (fun _ => R.ix (α := Int) r72 Y rfl rfl rfl) (Mw.q rfl rfl (fun _ c => R.ld rfl rfl (cl_cell (r72.at_ Y).1 rfl (r72.at_ Y).int c)) (Mw.p rfl rfl (fun _ => R.add rfl rfl) ?_))
      obtain ⟨cw, bm, hm⟩ := ob hm
      refine Mw.p rfl rfl (fun _ => R.ix (α := Int) r67 bm rfl rfl rfl) ?_
      obtain ⟨cx, bn, bp, bq, gb77⟩ := Ow.lend (α := List Int) (β := List Int) (j := 4) (jf := 0) d K (by rw [h_add0]; exact c66) rfl
      rw [← bn]
      obtain ⟨cy, br, hm⟩ := ob hm
      refine Mw.lu rfl (T.stS (K' := []) bq (rdI _) br rfl rfl rfl) ?_
      rintro _ _ ⟨cz, rfl, ar, bu⟩
      obtain ⟨bv, bw, bz, b0, eq84, b1⟩ := gb77 _ _ ar bu
      obtain ⟨au, eqm84, hm⟩ := ob hm
      obtain rfl : au = b0 := Option.some.inj (eqm84.symm.trans eq84)
      rw [← bw]
      exact Mw.nil ((ag) ⟨au, bv, rfl, ((((E.j aq).j bp).j ar).j bz).w, rfl, b1, hm⟩)
     ·refine Cw.draw [] [(0, 0), (1, 0), (2, 0), (3, 1), (4, 0), (5, 0), (6, 0), (7, 0), (8, 0), (9, 1), (10, 0), (11, 0), (12, 1), (13, 0), (14, 0), (15, 0), (16, 1), (17, 0), (18, 0), (19, 0), (20, 1), (21, 0), (22, 0), (23, 3)] mixed (by kernel_rfl) fun c0 av => ?_
      have b := (U.up E).up av
      refine Dv a rfl (Di rfl ?_)
      obtain ⟨c1, L, hm⟩ := ob hm
      refine Mw.p rfl rfl (fun _ => R.ix (α := List Int) b.rd L rfl rfl rfl) ?_
      obtain ⟨c2, c92, r93⟩ := (b.rd.at_ L).cell rfl
      refine Mw.q rfl rfl (fun _ c => R.ld rfl rfl (cl_cell (b.rd.at_ L).1 rfl c92 c)) (Di rfl (Dv a rfl (Di rfl (Mw.p rfl rfl (fun _ => R.add rfl rfl) ?_))))
      obtain ⟨c3, Z, hm⟩ := ob hm
      refine Mw.p rfl rfl (fun _ => R.ix (α := List Int) b.rd Z rfl rfl rfl) ?_
      obtain ⟨c4, c97, r98⟩ := (b.rd.at_ Z).cell rfl
      refine Mw.q rfl rfl (fun _ c => R.ld rfl rfl (cl_cell (b.rd.at_ Z).1 rfl c97 c)) (Di rfl ?_)
      obtain ⟨c5, aa, hm⟩ := ob hm
      refine Mw.p rfl rfl (fun _ => R.ix (α := Int) r98 aa rfl rfl rfl) (Mw.q rfl rfl (fun _ c => R.ld rfl rfl (cl_cell (r98.at_ aa).1 rfl (r98.at_ aa).int c)) (Dv a rfl (Di rfl ?_)))
      obtain ⟨c6, ac, hm⟩ := ob hm
      refine Mw.p rfl rfl (fun _ => R.ix (α := List Int) b.rd ac rfl rfl rfl) ?_
      obtain ⟨c7, c104, r105⟩ := (b.rd.at_ ac).cell rfl
      refine Mw.q rfl rfl (fun _ c => R.ld rfl rfl (cl_cell (b.rd.at_ ac).1 rfl c104 c)) (Di rfl (Mw.p rfl rfl (fun _ => R.add rfl rfl) ?_))
      obtain ⟨c8, ae, hm⟩ := ob hm
      refine Mw.p rfl rfl (fun _ => R.ix (α := Int) r105 ae rfl rfl rfl) (Mw.q rfl rfl (fun _ c => R.ld rfl rfl (cl_cell (r105.at_ ae).1 rfl (r105.at_ ae).int c)) (Mw.p rfl rfl (fun _ => R.max rfl rfl) ?_))
      obtain ⟨c9, b2, hm⟩ := ob hm
      refine Mw.p rfl rfl (fun _ => R.ix (α := Int) r93 b2 rfl rfl rfl) ?_
      obtain ⟨da, b3, b4, b5, gb110⟩ := Ow.lend (α := List Int) (β := List Int) (j := 5) (jf := 0) b L (by rw [h_add0]; exact c92) rfl
      rw [← b3]
      obtain ⟨db, b6, hm⟩ := ob hm
      refine Mw.lu rfl (T.stS (K' := []) b5 (rdI _) b6 rfl rfl rfl) ?_
      rintro _ _ ⟨dc, rfl, aw, b7⟩
      obtain ⟨b8, b9, cb, cc, eq117, cd⟩ := gb110 _ _ aw b7
      obtain ⟨ax, eqm117, hm⟩ := ob hm
      obtain rfl : ax = cc := Option.some.inj (eqm117.symm.trans eq117)
      rw [← b9]
      exact Mw.nil ((ag) ⟨ax, b8, rfl, ((((E.j av).j b4).j aw).j cb).w, rfl, cd, hm⟩)
   ·refine Cw.exit ?_
    rw [bg] at hm
    exact rg (mi rfl (Lw.sub rfl (Ni rfl ((agm) ⟨w64 (B - 1), H, vI C, h, rfl, (ao.j S).w, rfl, U, hm⟩))))
  ·refine Cw.exit ?_
   rw [bc] at hm
   refine sr (mv a rfl (Nv a rfl ?_))
   cases hm
   exact Cw.ret (ret1 rfl (Res.mk Q ⟨a, rfl, ap.s.sub rfl rfl⟩))
theorem p178 {x0 b x1 d k0 r} (f : Rd W K [b] x0) (h : Rd W K [d] x1) (hm : Vm.impl_lcs x0 x1 = some r) : Q1 178 [b, d] W [] fun W' v => ∃ a, v = a ∧ Ow W' k0 [] [a] r :=
 (c178 (f.view _) (h.view _) hm).ad (fk k0) fun _ _ ⟨a, e, i⟩ => ⟨a, e, i.back (fk_LL _)⟩
theorem c173 {x0 x x1 i r} (y : Rd W0 [0] [x] x0) (H : Rd W0 [0] [i] x1) (hm : Vm.impl_match x0 x1 = some r) : Q0 173 [x, i] W0 fun Wf v => ∃ W, v = W ∧ OwS Wf LL [] [W] r := by
 unfold Vm.impl_match at hm
 refine CallR.of Tryz.func173 rfl rfl rfl rfl (sr (Nv (.slice none 0 0) rfl (sr (mv x rfl (mv i rfl (cr hm (fun _ => p178 (k0 := 2) y H) ?_))))))
 rintro z1 I X hm l3 ⟨_, rfl, ap⟩
 have a4 := l3.o
 refine Nv I rfl (sr (Nv (.slice none 0 0) rfl (ssr (Gi rfl (Ni rfl (Cw.block ?_))))))
 obtain ⟨ar, au, hm⟩ := jn_e hm
 refine Cw.loop 12 70 [6, 7, 8] (fun m l w => ∃ A e d f z, CW.w z = w ∧ Le [3] X z ∧ l = [f, vI e, vI d] ∧ Ow z 3 [] [f] A ∧ Vm.impl_match_l1 x0 x1 z1 ar m A e d = some r) _ ⟨([] : List Int), 0, 0, .slice none 0 0, X, rfl, Le.refl _ _, rfl, owN 3 [], hm⟩ ?_
 rintro (_ | bg) _ _ σ ⟨A, e, d, f, z, rfl, l10, rfl, J, hm⟩
 ·cases hm
 unfold Vm.impl_match_l1 at hm
 have B := a4.t l10
 refine ssr (mi rfl (mv x rfl (Lw.ln x0 (y.ul B) rfl (Lw.lt rfl (nl (cn hm (fun hm => ?_) fun hm => ?_))))))
 ·refine sk (Cw.block (Cw.block ?_))
  obtain ⟨av, aw, hm⟩ := jn_e hm
  refine Cw.join 18 33 [18] (fun l w => ∃ K C, CW.w C = w ∧ Le [] z C ∧ l = [vB K] ∧ av K = some r) ?_ ?_
  ·rintro _ _ σ ⟨K, C, rfl, h, rfl, hm⟩
   rw [aw] at hm
   have ax := B.n h
   refine cn hm (fun hm => ?_) fun hm => ?_
   ·refine sr (mv f rfl (mi rfl (Lw.t rfl (T.bs 4 [vI d] (cs := [vI d]) rfl rfl (bsv rfl)) ?_)))
    rintro _ _ ⟨bh, bi, rfl, rfl, Y, ay⟩
    obtain ⟨az, a0, hm⟩ := ob hm
    refine Lw.t rfl (T.app1S (α := Int) (K' := []) ((J.up h).up Y) ay (rdI _) rfl rfl a0) ?_
    rintro Z _ ⟨a1, rfl, a2, a3⟩
    exact Nv Z rfl (sr (mi rfl (Lw.add rfl (Ni rfl (rg (mi rfl (Lw.add rfl (Ni rfl ((agm) ⟨az, w64 (e + 1), w64 (d + 1), Z, a1, rfl, (((l10.j h).j Y).j a2).w, rfl, a3, hm⟩)))))))))
   ·obtain ⟨a5, a6, hm⟩ := jn_e hm
    refine Cw.join 42 65 [42] (fun l w => ∃ L D, CW.w D = w ∧ Le [] C D ∧ l = [vB L] ∧ a5 L = some r) ?_ ?_
    ·rintro _ _ σ ⟨L, D, rfl, M, rfl, hm⟩
     rw [a6] at hm
     have aa := (J.up h).up M
     refine cn hm (fun hm => ?_) fun hm => ?_
     ·refine sr (mv f rfl (Lw.t rfl (T.bs 5 [vI (-1)] (cs := [vI (-1)]) rfl rfl (bsv rfl)) ?_))
      rintro _ _ ⟨bj, bk, rfl, rfl, ac, a7⟩
      obtain ⟨a8, a9, hm⟩ := ob hm
      refine Lw.t rfl (T.app1S (α := Int) (K' := []) (aa.up ac) a7 (rdI _) rfl rfl a9) ?_
      rintro ae _ ⟨ba, rfl, bb, bc⟩
      exact Nv ae rfl (rg (mi rfl (Lw.add rfl (Ni rfl ((agm) ⟨a8, w64 (e + 1), d, ae, ba, rfl, ((((l10.j h).j M).j ac).j bb).w, rfl, bc, hm⟩)))))
     ·exact rg (mi rfl (Lw.add rfl (Ni rfl ((agm) ⟨A, e, w64 (d + 1), f, D, rfl, ((l10.j h).j M).w, rfl, aa, hm⟩))))
    ·refine Cw.draw [] [(0, 0), (1, 0), (2, 0), (3, 0), (4, 0), (5, 0), (6, 0), (7, 0), (8, 0), (9, 1), (10, 0), (11, 0), (12, 1), (13, 0), (14, 0), (15, 0), (16, 1), (17, 0), (18, 0), (19, 0), (20, 1), (21, 0), (22, 0), (23, 0)] mixed (by kernel_rfl) fun af E => ?_
     have be := ax.n E
     have k := ((ap.up l10).up h).up E
     refine Di rfl (Dv i rfl (Mw.p rfl rfl (fun _ => lenR (xs := x1) (H.ul be) rfl) (Mw.p rfl rfl (fun _ => R.eq rfl rfl) (Db rfl (bs hm (fun a hm => ?_) fun a hm => ?_)))))
     ·exact dps 17 a rfl (Mw.p rfl rfl (fun _ => R.pk a rfl (v := vB true) rfl) (Hb rfl (Mw.nil ((ag) ⟨true, af, rfl, E, rfl, hm⟩))))
     ·refine Wp a rfl (fun _ => R.mv (v := I) rfl) (Wp a rfl (fun _ => R.mv (v := vI e) rfl) (Wp a rfl (fun _ => R.add rfl rfl) ?_))
      obtain ⟨bl, N, hm⟩ := ob hm
      refine Wp a rfl (fun _ => R.ix (α := List Int) k.rd N rfl rfl rfl) ?_
      obtain ⟨bm, c60, r61⟩ := (k.rd.at_ N).cell rfl
      refine Wq a rfl (fun _ c => R.ld rfl rfl (cl_cell (k.rd.at_ N).1 rfl c60 c)) (Wp a rfl (fun _ => R.mv (v := vI d) rfl) ?_)
      obtain ⟨ah, O, hm⟩ := ob hm
      refine Wp a rfl (fun _ => R.ix (α := Int) r61 O rfl rfl rfl) (Wq a rfl (fun _ c => R.ld rfl rfl (cl_cell (r61.at_ O).1 rfl (r61.at_ O).int c)) (Wp a rfl (fun _ => R.mv (v := I) rfl) (Wp a rfl (fun _ => R.mv (v := vI e) rfl) ?_)))
      obtain ⟨u64, P, hm⟩ := ob hm
      refine Wp a rfl (fun _ => R.ix (α := List Int) k.rd P rfl rfl rfl) ?_
      obtain ⟨bn, c67, r68⟩ := (k.rd.at_ P).cell rfl
      refine Wq a rfl (fun _ c => R.ld rfl rfl (cl_cell (k.rd.at_ P).1 rfl c67 c)) (Wp a rfl (fun _ => R.mv (v := vI d) rfl) (Wp a rfl (fun _ => R.add rfl rfl) ?_))
      obtain ⟨ai, Q, hm⟩ := ob hm
      exact Wp a rfl (fun _ => R.ix (α := Int) r68 Q rfl rfl rfl) (Wq a rfl (fun _ c => R.ld rfl rfl (cl_cell (r68.at_ Q).1 rfl (r68.at_ Q).int c)) (Wp a rfl (fun _ => R.ge rfl rfl) (Mw.p rfl rfl (fun _ => R.pk a rfl (v := vB (decide ((ai : Int) ≤ (ah : Int)))) rfl) (Hb rfl (Mw.nil ((ag) ⟨decide ((ai : Int) ≤ (ah : Int)), af, rfl, E, rfl, hm⟩))))))
  ·refine Cw.draw [] [(0, 0), (1, 0), (2, 0), (3, 0), (4, 0), (5, 0), (6, 0), (7, 0), (8, 1), (9, 0), (10, 0), (11, 0), (12, 1), (13, 0), (14, 0), (15, 0)] mixed (by kernel_rfl) fun aj S => ?_
   have F := B.n S
   have G := H.ul F
   refine Di rfl (Dv i rfl (Mw.p rfl rfl (fun _ => lenR (xs := x1) G rfl) (Mw.p rfl rfl (fun _ => R.lt rfl rfl) (Db rfl (bs hm (fun b hm => ?_) fun b hm => ?_)))))
   ·refine Wp b rfl (fun _ => R.mv (v := x) rfl) (Wp b rfl (fun _ => R.mv (v := vI e) rfl) ?_)
    obtain ⟨ak, U, hm⟩ := ob hm
    refine Wp b rfl (fun _ => R.ix (α := Str) (y.ul F) U rfl rfl rfl) (Wq b rfl (fun _ c => R.ld rfl rfl (cl_cell ((y.ul F).at_ U).1 rfl ((y.ul F).at_ U).str c)) (Wp b rfl (fun _ => R.mv (v := i) rfl) (Wp b rfl (fun _ => R.mv (v := vI d) rfl) ?_)))
    obtain ⟨am, V, hm⟩ := ob hm
    exact Wp b rfl (fun _ => R.ix (α := Str) G V rfl rfl rfl) (Wq b rfl (fun _ c => R.ld rfl rfl (cl_cell (G.at_ V).1 rfl (G.at_ V).str c)) (Wp b rfl (fun _ => R.seq rfl rfl) (Mw.p rfl rfl (fun _ => R.pk b rfl (v := vB (ak == am)) rfl) (Hb rfl (Mw.nil ((ag) ⟨(ak == am), aj, rfl, S, rfl, hm⟩))))))
   ·exact dps 9 b rfl (Mw.p rfl rfl (fun _ => R.pk b rfl (v := vB false) rfl) (Hb rfl (Mw.nil ((ag) ⟨false, aj, rfl, S, rfl, hm⟩))))
 ·refine Cw.exit ?_
  rw [au] at hm
  refine sr (mv f rfl (Nv f rfl ?_))
  cases hm
  exact Cw.ret (ret1 rfl (Res.mk B ⟨f, rfl, J.s.sub rfl rfl⟩))
theorem p173 {x0 b x1 d k0 r} (f : Rd W K [b] x0) (h : Rd W K [d] x1) (hm : Vm.impl_match x0 x1 = some r) : Q1 173 [b, d] W [] fun W' v => ∃ a, v = a ∧ Ow W' k0 [] [a] r :=
 (c173 (f.view _) (h.view _) hm).ad (fk k0) fun _ _ ⟨a, e, i⟩ => ⟨a, e, i.back (fk_LL _)⟩
theorem c174 {x0 i x1 k a r} (I : Rd W0 [0] [i] x0) (hB1 : Bx W0 2 k [a]) (b : Ow W0 3 [] [a] x1) (hm : Vm.impl_mergeOf_c1 x0 x1 = some r) : Q0 174 [i, ptr (bx k)] W0 fun Wf v => ∃ uc1, v = .tuple #[] ∧ Ow Wf 3 [] [uc1] r ∧ Bx Wf 2 k [uc1] := by
 unfold Vm.impl_mergeOf_c1 at hm
 refine CallR.of Tryz.func174 rfl rfl rfl rfl (ssr (mv i rfl (Lw.ln x0 I rfl (Lw.eq rfl (nl (cn hm (fun hm => ?_) fun hm => ?_))))))
 ·cases hm
  exact Cw.ret (ret0 (Res.mk (Le.refl _ _) ⟨a, rfl, b, hB1⟩))
 ·refine sk (sr (Lw.r rfl (R.ld (v := a) rfl rfl (hB1.cell0 rfl)) (Lw.ln x1 b.rd rfl (Lw.sub rfl (Ni rfl ?_)))))
  obtain ⟨U, V, hm⟩ := jn_e hm
  refine Cw.join 10 24 [3] (fun l w => ∃ A B d e, CW.w e = w ∧ Le [2, 3] W0 e ∧ l = [vI A] ∧ Ow e 3 [] [d] B ∧ Bx e 2 k [d] ∧ U A B = some r) ?_ ?_
  ·rintro _ _ σ ⟨A, B, d, e, rfl, W, rfl, X, Y, hm⟩
   rw [V] at hm
   have Z := W.s
   refine Cw.draw [3, 4] [(0, 1), (1, 0), (2, 1), (3, 0), (4, 0), (5, 0), (7, 0), (6, 2), (8, 2), (9, 0), (10, 0), (11, 3)] mixed (by kernel_rfl) fun az l10 => ?_
   have aa := Z.n l10
   have x := X.up l10
   have C := Y.up l10
   refine Mw.q rfl rfl (fun _ c => R.ld (v := d) rfl rfl (C.clc0 rfl rfl c)) (Di rfl (Mw.q rfl rfl (fun _ c => R.ld (v := d) rfl rfl (C.clc0 rfl rfl c)) (Di rfl ?_)))
   obtain ⟨a0, D, hm⟩ := ob hm
   refine Mw.p rfl rfl (fun _ => R.ix (α := Part) x.rd D rfl rfl rfl) (Df rfl (Dv i rfl ?_))
   obtain ⟨a1, c17, r18⟩ := (Part.at1 (x.rd.at_ D)).cell rfl
   refine Mw.t rfl rfl (Run.tr (R.ld rfl rfl c17)) ?_
   rintro _ _ ⟨hu, rfl⟩
   obtain rfl := hu.symm
   refine ⟨⟨_, rfl, (Le.refl _ _)⟩, ?_⟩
   obtain ⟨a2, ac, E, ae, af⟩ := Ow.take (α := Part) (β := List Str) (j := 4) (jf := 1) x D c17 rfl
   rw [← ac]
   have K := aa.t E
   obtain ⟨a3, ah, hm⟩ := ob hm
   refine Mw.t rfl rfl (T.appP (α := Str) ae (I.ul K) rfl rfl ah) ?_
   rintro a4 _ ⟨a5, rfl, y, ai⟩
   have aj := K.t y
   refine ⟨⟨_, rfl, ((E.sub (M := [3, 4]) rfl).trans (y.sub (M := [3, 4]) rfl))⟩, ?_⟩
   obtain ⟨a6, ak, hm⟩ := ob hm
   refine Mw.p rfl rfl (fun _ => R.ix (α := Part) x.rd ak rfl rfl rfl) (Df rfl ?_)
   obtain ⟨a7, am, hm⟩ := ob hm
   refine Mw.lu rfl (T.stH (α := Part) (β := List Str) (J := [4]) (af.up (y.sub (M := [4]) rfl) rfl) ai.s am rfl rfl rfl rfl) ?_
   rintro _ _ ⟨a8, rfl, L, an⟩
   have ao := aj.t L
   refine Mw.nil ?_
   cases hm
   show RetP _ _ _ .ret _ _
   exact ret0 (Res.mk ao ⟨d, rfl, an, (((C.up E).up y).up L)⟩)
  ·obtain ⟨ap, aq, hm⟩ := jn_e hm
   refine Cw.join 10 18 [18] (fun l w => ∃ F z, CW.w z = w ∧ Le [] W0 z ∧ l = [vB F] ∧ ap F = some r) ?_ ?_
   ·rintro _ _ σ ⟨F, z, rfl, f, rfl, hm⟩
    rw [aq] at hm
    have G := hB1.up f
    refine cn hm (fun hm => ?_) fun hm => ?_
    ·refine sr (lz G rfl (Lw.r rfl (R.bd (zs := [vB false, .slice none 0 0, .slice none 0 0, .slice none 0 0, .slice none 0 0]) (cs := [vB false, .slice none 0 0, .slice none 0 0, .slice none 0 0, .slice none 0 0]) [] rfl rfl rfl bp_nil) (Lw.t rfl (T.bs 5 [.agg [vB false, .slice none 0 0, .slice none 0 0, .slice none 0 0, .slice none 0 0].toArray] (cs := [vB false, .slice none 0 0, .slice none 0 0, .slice none 0 0, .slice none 0 0]) rfl rfl (bsA rfl)) ?_)))
     rintro _ _ ⟨ba, bb, rfl, rfl, H, ar⟩
     obtain ⟨au, av, hm⟩ := ob hm
     refine Lw.t rfl (T.app1 (α := Part) (J := []) (K' := []) ((b.up f).up H) ar (Part.own false ([] : List Str) ([] : List Str) ([] : List Str) ([] : List Str) (owsN []) (owsN []) (owsN []) (owsN [])) rfl rfl av) ?_
     rintro N _ ⟨bc, rfl, O, P⟩
     refine Lw.u (T.st0 (v := N) ((G.up H).up O) rfl rfl P.oc rfl rfl) ?_
     rintro _ _ ⟨aw, rfl, Q, ax⟩
     exact nl (rg (mi rfl (Lw.add rfl (Ni rfl ((ag) ⟨w64 ((w64 ((x1.length : Int) - 1)) + 1), au, N, aw, rfl, (((f.j H).j O).j Q).w, rfl, (P.up Q), ax, hm⟩)))))
    ·exact sk ((ag) ⟨w64 ((x1.length : Int) - 1), x1, a, z, rfl, f.w, rfl, (b.up f), G, hm⟩)
   ·refine rg (mi rfl (Lw.lt rfl (mb rfl (bs hm (fun h hm => ?_) fun h hm => ?_))))
    ·exact psk 5 h rfl (Pb h rfl (nl ((ag) ⟨true, W0, rfl, Le.refl _ _, rfl, hm⟩)))
    ·refine wak 5 h (Lw.r rfl (R.ld (v := a) rfl rfl (hB1.cell0 rfl)) (mi rfl ?_))
     obtain ⟨ay, S, hm⟩ := ob hm
     exact Lw.r rfl (R.ix (α := Part) b.rd S rfl rfl rfl) (Lw.fa rfl (Lw.r rfl (R.ld rfl rfl (Part.at0 (b.rd.at_ S)).bool) (Pb h rfl (nl ((ag) ⟨ay.Clash, W0, rfl, Le.refl _ _, rfl, hm⟩)))))
theorem p174 {x0 b x1 a d c0 c1 r} (f : Rd W K [b] x0) (hB1 : Bx W c0 a [d]) (h : Ow W c1 [] [d] x1) (hJ : okJ K [c0, c1] = true) (hm : Vm.impl_mergeOf_c1 x0 x1 = some r) : Q1 174 [b, ptr (bx a)] W [c0, c1] fun W' v => ∃ uc1, v = .tuple #[] ∧ Ow W' c1 [] [uc1] r ∧ Bx W' c0 a [uc1] :=
 CallR.adJ (J := [c0, c1]) (fun c => bif Nat.beq c 0 then 0 else bif Nat.beq c 2 then c0 else bif Nat.beq c 3 then c1 else 0) (c174 (f.view _) (hB1.viewJ 0 hJ) (h.viewJ 1 hJ) hm) fun _ _ ⟨uc1, e, i, k⟩ => ⟨uc1, e, Ow.backJ 1 i rfl, Bx.backJ 0 k rfl⟩
end Go.Sx
