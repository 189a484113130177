/- Walks: each function answers as its model, printed by a program of ours. Conditions: the arguments read as they are given. -/
import Derived.Test.YtbimgeocngkboaaGreatDoorBTs
import Derived.Test.YtbimgeocngkboaaGreatDoorBM0
import Derived.Test.YtbimgeocngkboaaGreatDoorBW1
import Derived.Test.YtbimgeocngkboaaGreatDoorBW2
import Derived.Test.YtbimgeocngkboaaGreatDoorBE
namespace Go.Sx
open Go Go.Proofs Go.Vm Rp
set_option linter.unusedVariables false
set_option linter.unusedSimpArgs false
variable {W W0 : CW} {K : List Nat}
theorem c47 {x0 y a x1 x2 d e r} (h0 : Rd W0 [0] [y, a] x0) (h2 : Rd W0 [0] [d, vS x2.Who, e] x2) (hm : Vm.spec_l7Add x0 x1 x2 = some r) : Q0 47 [.agg [y, a].toArray, vS x1, .agg [d, vS x2.Who, e].toArray] W0 fun Wf v => ∃ af ah, v = .agg [af, ah].toArray ∧ Rd Wf [0] [af] r.Commits ∧ Rd Wf [0] [ah] r.Heads := by
 unfold Vm.spec_l7Add at hm
 obtain ⟨dr, ds, ai, aj, F⟩ := Repo.split h0
 simp only [List.cons.injEq, and_true, true_and] at ai
 obtain ⟨rfl, rfl⟩ := ai
 obtain ⟨dt, du, ak, bc, be⟩ := Commit.split h2
 simp only [List.cons.injEq, and_true, true_and] at ak
 obtain ⟨rfl, rfl⟩ := ak
 refine CallR.of Tryz.func47 rfl rfl rfl rfl (sr (bo 2 rfl fun f W1 l1 b1 => ?_))
 have a2 := l1.o
 refine bo 3 rfl fun g3 W3 l3 b3 => ?_
 have a4 := a2.n l3
 refine al 4 [.slice none 0 0, .slice none 0 0] fun g6 W6 G b6 => ?_
 have a7 := a4.n G
 refine nl (Cw.seq ?_)
 obtain ⟨B, bn, hm⟩ := ob hm
 obtain ⟨i, bp, hm⟩ := ob hm
 refine Cw.par [[], [], [1], [0, 1, 2], [], [4], [0, 1, 2, 3, 4, 5], [], [7], [0, 1, 2, 3, 4, 5, 6, 7, 8], [], [0, 1, 2, 3, 4, 5, 6, 7, 8, 9, 10]] [[], [], [1], [0, 2], [], [4], [3, 5], [], [7], [6, 8], [], [6, 9, 10]] [[], [], [], [5], [], [], [5], [], [], [], [], [7]] [[0], [1], [2], [3], [4], [5], [6], [7], [8], [6, 9], [10], [6, 10]] [[5], [], [], [0, 5], [], [6], [0, 5], [], [], [], [7], [7]] [1, 2, 4, 5, 6, 7, 8, 9, 11] [5, 7] [fun vs W => Ow W 5 [] [(vs 0)] ([] : List Commit), fun vs W => (vs 1) = ptr ((bx f).add 0), fun vs W => (vs 2) = y, fun vs W => Ow (α := List (Sh Vm.Commit)) W 5 [0] [(vs 3)] B, fun vs W => (vs 4) = .agg [d, vS x2.Who, e].toArray, fun vs W => (vs 5) = .slice (some (bx (pg (vs 5)))) 1 1 ∧ Bx W 6 (pg (vs 5)) [d, vS x2.Who, e], fun vs W => Ow (α := List (Sh Vm.Commit)) W 5 [0] [(vs 6)] i, fun vs W => (vs 7) = ptr ((bx f).add 1), fun vs W => (vs 8) = a, fun vs W => (vs 9) = .agg [(vs 6), a].toArray, fun vs W => (vs 10) = ptr (bx (pg (vs 10))) ∧ Bx W 7 (pg (vs 10)) [.slice none 0 0, .slice none 0 0], fun vs W => (vs 10) = ptr (bx (pg (vs 10))) ∧ Bx W 7 (pg (vs 10)) [(vs 6), a]] [] mixed (by kernel_rfl) rfl AllF.nil ?_
 intro d0 C
 have H := a7.n C
 have I := ((b1.up l3).up G).up C
 refine ⟨(Steps.cons ?_ (Steps.cons ?_ (Steps.cons ?_ (Steps.cons ?_ (Steps.cons ?_ (Steps.cons ?_ (Steps.cons ?_ (Steps.cons ?_ (Steps.cons ?_ (Steps.cons ?_ (Steps.cons ?_ (Steps.cons ?_ Steps.nil)))))))))))), (Sups.cons (fun vs vs' W W' _ hv l hd h => by (show Ow W' 5 [] [(vs' 0)] ([] : List Commit)); rw [hv 0 (anyb rfl)]; exact h.upv l (disj_mem hd (c := 5) rfl)) (Sups.cons (fun vs vs' W W' _ hv l hd h => by (show (vs' 1) = ptr ((bx f).add 0)); rw [hv 1 (anyb rfl)]; exact h) (Sups.cons (fun vs vs' W W' _ hv l hd h => by (show (vs' 2) = y); rw [hv 2 (anyb rfl)]; exact h) (Sups.cons (fun vs vs' W W' _ hv l hd h => by (show Ow (α := List (Sh Vm.Commit)) W' 5 [0] [(vs' 3)] B); rw [hv 3 (anyb rfl)]; exact h.up l (disj_sub hd (K := [5, 0]) rfl)) (Sups.cons (fun vs vs' W W' _ hv l hd h => by (show (vs' 4) = .agg [d, vS x2.Who, e].toArray); rw [hv 4 (anyb rfl)]; exact h) (Sups.cons (fun vs vs' W W' _ hv l hd h => by (show (vs' 5) = .slice (some (bx (pg (vs' 5)))) 1 1 ∧ Bx W' 6 (pg (vs' 5)) [d, vS x2.Who, e]); rw [hv 5 (anyb rfl)]; exact ⟨h.1, h.2.up l (disj_mem hd (c := 6) rfl)⟩) (Sups.cons (fun vs vs' W W' _ hv l hd h => by (show Ow (α := List (Sh Vm.Commit)) W' 5 [0] [(vs' 6)] i); rw [hv 6 (anyb rfl)]; exact h.up l (disj_sub hd (K := [5, 0]) rfl)) (Sups.cons (fun vs vs' W W' _ hv l hd h => by (show (vs' 7) = ptr ((bx f).add 1)); rw [hv 7 (anyb rfl)]; exact h) (Sups.cons (fun vs vs' W W' _ hv l hd h => by (show (vs' 8) = a); rw [hv 8 (anyb rfl)]; exact h) (Sups.cons (fun vs vs' W W' _ hv l hd h => by (show (vs' 9) = .agg [(vs' 6), a].toArray); rw [hv 6 (anyb rfl), hv 9 (anyb rfl)]; exact h) (Sups.cons (fun vs vs' W W' _ hv l hd h => by (show (vs' 10) = ptr (bx (pg (vs' 10))) ∧ Bx W' 7 (pg (vs' 10)) [.slice none 0 0, .slice none 0 0]); rw [hv 10 (anyb rfl)]; exact ⟨h.1, h.2.up l (disj_mem hd (c := 7) rfl)⟩) (Sups.cons (fun vs vs' W W' _ hv l hd h => by (show (vs' 10) = ptr (bx (pg (vs' 10))) ∧ Bx W' 7 (pg (vs' 10)) [(vs' 6), a]); rw [hv 6 (anyb rfl), hv 10 (anyb rfl)]; exact ⟨h.1, h.2.up l (disj_mem hd (c := 7) rfl)⟩) Sups.nil)))))))))))), ?_⟩
 ·intro vs W lW hN
  obtain ⟨d1, bq⟩ : ∃ X, X = W := ⟨W, rfl⟩
  subst bq
  refine Tr.mono (T.lit0 (α := Commit) 5 []) ?_
  rintro br _ ⟨an, rfl, bu, bv⟩
  exact ⟨an, rfl, bu, (show Ow an 5 [] [br] ([] : List Commit) from bv)⟩
 ·intro vs W lW hN
  obtain ⟨bw, bz⟩ : ∃ X, X = W := ⟨W, rfl⟩
  subst bz
  refine Tr.mono (Run.tr (R.fa rfl)) ?_
  rintro _ _ ⟨hu, rfl⟩
  obtain rfl := hu.symm
  exact ⟨bw, rfl, Le.refl _ _, (show (ptr ((bx f).add 0) : Value) = ptr ((bx f).add 0) from rfl)⟩
 ·intro vs W lW hN
  obtain ⟨b0, b2⟩ : ∃ X, X = W := ⟨W, rfl⟩
  subst b2
  have J : vs 1 = ptr ((bx f).add 0) := (hN 1 (anyb rfl))
  obtain ⟨vs, rfl⟩ := up_eq J
  refine Tr.mono (Run.tr (R.ld (v := y) rfl rfl ((I.up lW rfl).cell rfl))) ?_
  rintro _ _ ⟨hu, rfl⟩
  obtain rfl := hu.symm
  exact ⟨b0, rfl, Le.refl _ _, (show (y : Value) = y from rfl)⟩
 ·intro vs W lW hN
  obtain ⟨b4, b5⟩ : ∃ X, X = W := ⟨W, rfl⟩
  subst b5
  have b7 := H.t lW rfl
  obtain ⟨b8, b9⟩ : ∃ v, vs 0 = v := ⟨_, rfl⟩
  obtain ⟨vs, rfl⟩ := up_eq b9
  have cb : Ow b4 5 [] [b8] ([] : List Commit) := (hN 0 (anyb rfl))
  have L : vs 2 = y := (hN 2 (anyb rfl))
  obtain ⟨vs, rfl⟩ := up_eq L
  obtain ⟨d2, cc, ao, cd⟩ := cb.toSh
  rw [← cc]
  have ce := b7.t ao
  refine Tr.mono (T.appS (α := Sh Vm.Commit) (K' := [0]) cd (aj.ul ce).shL rfl rfl bn) ?_
  rintro cf _ ⟨ap, rfl, cg, ch⟩
  exact ⟨ap, rfl, ((ao.sub (M := [5]) rfl).trans (cg.sub (M := [5]) rfl)), (show Ow (α := List (Sh Vm.Commit)) ap 5 [0] [cf] B from ch)⟩
 ·intro vs W lW hN
  obtain ⟨ci, cj⟩ : ∃ X, X = W := ⟨W, rfl⟩
  subst cj
  refine Tr.mono (Run.tr (R.lda (cs := [d, vS x2.Who, e]) (((b3.up G).up C).up lW rfl).cells rfl rfl)) ?_
  rintro _ _ ⟨hu, rfl⟩
  obtain rfl := hu.symm
  exact ⟨ci, rfl, Le.refl _ _, (show (.agg [d, vS x2.Who, e].toArray : Value) = .agg [d, vS x2.Who, e].toArray from rfl)⟩
 ·intro vs W lW hN
  obtain ⟨d3, ck⟩ : ∃ X, X = W := ⟨W, rfl⟩
  subst ck
  have N : vs 4 = .agg [d, vS x2.Who, e].toArray := (hN 4 (anyb rfl))
  obtain ⟨vs, rfl⟩ := up_eq N
  refine Tr.mono (T.bs 6 [.agg [d, vS x2.Who, e].toArray] (cs := [d, vS x2.Who, e]) rfl rfl (bsA rfl)) ?_
  rintro _ _ ⟨O, aq, rfl, rfl, cl, cm⟩
  exact ⟨aq, rfl, cl, (show (.slice (some (bx O)) 1 1 : Value) = .slice (some (bx O)) 1 1 ∧ Bx aq 6 O [d, vS x2.Who, e] from ⟨rfl, cm⟩)⟩
 ·intro vs W lW hN
  obtain ⟨ar, co⟩ : ∃ X, X = W := ⟨W, rfl⟩
  subst co
  have au := H.t lW rfl
  obtain ⟨cp, cq⟩ : ∃ v, vs 3 = v := ⟨_, rfl⟩
  obtain ⟨vs, rfl⟩ := up_eq cq
  have ct : Ow (α := List (Sh Vm.Commit)) ar 5 [0] [cp] B := (hN 3 (anyb rfl))
  obtain ⟨z, P⟩ : ∃ z, vs 5 = .slice (some (bx z)) 1 1 := ⟨_, ((hN 5 (anyb rfl))).1⟩
  obtain ⟨vs, rfl⟩ := up_eq P
  have cu : Bx ar 6 z [d, vS x2.Who, e] := (hN 5 (anyb rfl)).2
  refine Tr.mono (T.app1S (α := Sh Vm.Commit) (K' := [0]) ct cu (Commit.rd (K := [0]) x2.Parents x2.Who x2.Tree (bc.ul au) (be.ul au)).sh1 rfl rfl bp) ?_
  rintro cv _ ⟨av, rfl, cw, cx⟩
  exact ⟨av, rfl, cw, (show Ow (α := List (Sh Vm.Commit)) av 5 [0] [cv] i from cx)⟩
 ·intro vs W lW hN
  obtain ⟨cy, cz⟩ : ∃ X, X = W := ⟨W, rfl⟩
  subst cz
  refine Tr.mono (Run.tr (R.fa rfl)) ?_
  rintro _ _ ⟨hu, rfl⟩
  obtain rfl := hu.symm
  exact ⟨cy, rfl, Le.refl _ _, (show (ptr ((bx f).add 1) : Value) = ptr ((bx f).add 1) from rfl)⟩
 ·intro vs W lW hN
  obtain ⟨c0, c1⟩ : ∃ X, X = W := ⟨W, rfl⟩
  subst c1
  have Q : vs 7 = ptr ((bx f).add 1) := (hN 7 (anyb rfl))
  obtain ⟨vs, rfl⟩ := up_eq Q
  refine Tr.mono (Run.tr (R.ld (v := a) rfl rfl ((I.up lW rfl).cell rfl))) ?_
  rintro _ _ ⟨hu, rfl⟩
  obtain rfl := hu.symm
  exact ⟨c0, rfl, Le.refl _ _, (show (a : Value) = a from rfl)⟩
 ·intro vs W lW hN
  obtain ⟨aw, c2⟩ : ∃ X, X = W := ⟨W, rfl⟩
  subst c2
  obtain ⟨b, A⟩ : ∃ v, vs 6 = v := ⟨_, rfl⟩
  obtain ⟨vs, rfl⟩ := up_eq A
  have c3 : Ow (α := List (Sh Vm.Commit)) aw 5 [0] [b] i := (hN 6 (anyb rfl))
  have S : vs 8 = a := (hN 8 (anyb rfl))
  obtain ⟨vs, rfl⟩ := up_eq S
  refine Tr.mono (Run.tr (R.bd (zs := [.slice none 0 0, .slice none 0 0]) (cs := [b, a]) [(0, b), (1, a)] rfl rfl rfl (bp_cons c3.oc rfl (bp_cons F.oc rfl bp_nil)))) ?_
  rintro _ _ ⟨hu, rfl⟩
  obtain rfl := hu.symm
  exact ⟨aw, rfl, Le.refl _ _, (show (.agg [b, a].toArray : Value) = .agg [b, a].toArray from rfl)⟩
 ·intro vs W lW hN
  obtain ⟨d4, c4⟩ : ∃ X, X = W := ⟨W, rfl⟩
  subst c4
  refine Tr.mono (T.alloc 7 (cs := [.slice none 0 0, .slice none 0 0]) rfl) ?_
  rintro _ _ ⟨U, ax, rfl, rfl, c5, c6⟩
  exact ⟨ax, rfl, c5, (show (ptr (bx U) : Value) = ptr (bx U) ∧ Bx ax 7 U [.slice none 0 0, .slice none 0 0] from ⟨rfl, c6⟩)⟩
 ·intro vs W lW hN
  obtain ⟨ay, c7⟩ : ∃ X, X = W := ⟨W, rfl⟩
  subst c7
  obtain ⟨b, A⟩ : ∃ v, vs 6 = v := ⟨_, rfl⟩
  obtain ⟨vs, rfl⟩ := up_eq A
  have c8 : Ow (α := List (Sh Vm.Commit)) ay 5 [0] [b] i := (hN 6 (anyb rfl))
  have V : vs 9 = .agg [b, a].toArray := (hN 9 (anyb rfl))
  obtain ⟨vs, rfl⟩ := up_eq V
  obtain ⟨k, Y⟩ : ∃ k, vs 10 = ptr (bx k) := ⟨_, ((hN 10 (anyb rfl))).1⟩
  obtain ⟨vs, rfl⟩ := up_eq Y
  have c9 : Bx ay 7 k [.slice none 0 0, .slice none 0 0] := (hN 10 (anyb rfl)).2
  refine Tr.mono (T.sta (vs := [b, a]) c9 rfl rfl (oc_cons c8.oc (oc_cons F.oc oc_nil)) rfl rfl) ?_
  rintro _ _ ⟨az, rfl, da, db⟩
  exact ⟨az, rfl, da, (show (ptr (bx k)) = ptr (bx k) ∧ Bx az 7 k [b, a] from ⟨rfl, db⟩)⟩
 ·intro vs W lW hN
  obtain ⟨D, dc⟩ : ∃ X, X = W := ⟨W, rfl⟩
  subst dc
  have Z := H.t lW rfl
  obtain ⟨d5, hl174⟩ : ∃ x, x = lW := ⟨lW, rfl⟩
  have J : vs 1 = ptr ((bx f).add 0) := (hN 1 (anyb rfl))
  obtain ⟨vs, rfl⟩ := up_eq J
  have L : vs 2 = y := (hN 2 (anyb rfl))
  obtain ⟨vs, rfl⟩ := up_eq L
  have N : vs 4 = .agg [d, vS x2.Who, e].toArray := (hN 4 (anyb rfl))
  obtain ⟨vs, rfl⟩ := up_eq N
  obtain ⟨z, P⟩ : ∃ z, vs 5 = .slice (some (bx z)) 1 1 := ⟨_, ((hN 5 (anyb rfl))).1⟩
  obtain ⟨vs, rfl⟩ := up_eq P
  have d6 : Bx D 6 z [d, vS x2.Who, e] := (hN 5 (anyb rfl)).2
  obtain ⟨b, A⟩ : ∃ v, vs 6 = v := ⟨_, rfl⟩
  obtain ⟨vs, rfl⟩ := up_eq A
  have a0 : Ow (α := List (Sh Vm.Commit)) D 5 [0] [b] i := (hN 6 (anyb rfl))
  have Q : vs 7 = ptr ((bx f).add 1) := (hN 7 (anyb rfl))
  obtain ⟨vs, rfl⟩ := up_eq Q
  have S : vs 8 = a := (hN 8 (anyb rfl))
  obtain ⟨vs, rfl⟩ := up_eq S
  have V : vs 9 = .agg [b, a].toArray := (hN 9 (anyb rfl))
  obtain ⟨vs, rfl⟩ := up_eq V
  obtain ⟨k, Y⟩ : ∃ k, vs 10 = ptr (bx k) := ⟨_, (hN 11 (anyb rfl)).1⟩
  obtain ⟨vs, rfl⟩ := up_eq Y
  have dd : Bx D 7 k [b, a] := (hN 11 (anyb rfl)).2
  refine sr (Lw.r rfl (R.lda (cs := [b, a]) dd.cells rfl rfl) (ms rfl (fl (I.up lW rfl) rfl (Lw.ln x0.Commits (aj.ul Z) rfl ?_))))
  have de : Rd (α := List Vm.Commit) D [5, 0] [b] i := Ow.rdSh a0
  refine cr hm (fun _ => p44 (K := [0, 5]) (x0 := (Vm.Repo.mk i x0.Heads)) (Repo.rd (K := [0, 5]) i x0.Heads (de.sub (M := [0, 5]) rfl) ((F.ul Z).sub (M := [0, 5]) rfl))) ?_
  rintro a1 _ d7 hm aa ⟨a3, a5, rfl, df, dg⟩
  have a6 := df.sub (M := [0, 5]) rfl
  have a8 := dg.sub (M := [0, 5]) rfl
  have dh := Z.n aa
  refine sta (((b6.up C).up lW rfl).up aa) (oc_cons a6.oc (oc_cons a8.oc oc_nil)) fun d8 E di => ?_
  have dj := dh.t E
  refine nl ?_
  have dk := a6.up (E.sub (M := [4]) rfl) rfl
  have dl := a8.up (E.sub (M := [4]) rfl) rfl
  obtain ⟨ac, dm, a9, ae⟩ := dyeE _ 5
  have dn : Rd ac [0] [a3] a1.Commits := by rw [ae]; exact (dk.dye 5).sub (M := [0]) rfl
  have dp : Rd ac [0] [a5] a1.Heads := by rw [ae]; exact (dl.dye 5).sub (M := [0]) rfl
  have d9 : Rd (α := List Vm.Commit) ac [0] [b] i := by rw [ae]; exact (((a0.up aa).up E).rd.dye 5).sub (M := [0]) rfl
  have dq := dj.t a9
  cases hm
  rw [← dm]
  exact Cw.ret (retA1 rfl (di.up a9) (Res.mk dq ⟨a3, a5, rfl, dn, dp⟩))
theorem p47 {x0 d f x1 x2 h i r} (k : Rd W K [d, f] x0) (x : Rd W K [h, vS x2.Who, i] x2) (hm : Vm.spec_l7Add x0 x1 x2 = some r) : Q1 47 [.agg [d, f].toArray, vS x1, .agg [h, vS x2.Who, i].toArray] W [] fun W' v => ∃ a b, v = .agg [a, b].toArray ∧ Rd W' (0 :: K) [a] r.Commits ∧ Rd W' (0 :: K) [b] r.Heads :=
 (c47 (k.view _) (x.view _) hm).ad (fk 0) fun _ _ ⟨a, b, e, y, z⟩ => ⟨a, b, e, y.back rfl, z.back rfl⟩
theorem c35 {x0 B C x1 x2 x3 H x4 I r} (h0 : Rd W0 [0] [B, C] x0) (h3 : Rd W0 [0] [H] x3) (h4 : Rd W0 [0] [I] x4) (hm : Vm.spec_l10Put x0 x1 x2 x3 x4 = some r) : Q0 35 [.agg [B, C].toArray, vS x1, vS x2, H, I] W0 fun Wf v => ∃ ai aj, v = .tuple [.agg [ai, aj].toArray, vI r.2].toArray ∧ Rd Wf [0] [ai] r.1.Commits ∧ Rd Wf [0] [aj] r.1.Heads := by
 unfold Vm.spec_l10Put at hm
 obtain ⟨b5, b6, ak, e, h⟩ := Repo.split h0
 simp only [List.cons.injEq, and_true, true_and] at ak
 obtain ⟨rfl, rfl⟩ := ak
 refine CallR.of Tryz.func35 rfl rfl rfl rfl (sr (bo 2 rfl fun g1 W1 l1 b1 => ?_))
 have a2 := l1.o
 refine al 3 [.slice none 0 0, .slice none 0 0] fun g3 W3 J b3 => ?_
 have L := a2.n J
 refine Ni rfl (sr (la (b1.up J) (ms rfl (ca hm (fun _ => p20 (Repo.rd (K := [0]) x0.Commits x0.Heads (e.ul L) (h.ul L))) fun x cc hm l10 => ?_))))
 have y := L.n l10
 have an := (b1.up J).up l10
 refine Ni rfl (sr (mv H rfl (fl an rfl (mi rfl ?_))))
 obtain ⟨cd, ao, hm⟩ := ob hm
 refine Lw.r rfl (R.ix (α := Commit) (e.ul y) ao rfl rfl rfl) (Lw.fa rfl ?_)
 obtain ⟨ce, c18, r19⟩ := (Commit.at2 ((e.ul y).at_ ao)).cell rfl
 refine Lw.r rfl (R.ld rfl rfl c18) (mv I rfl (cr hm (fun _ => p45 (k0 := 4) (k1 := 5) (h3.ul y) r19 (h4.ul y)) ?_))
 rintro D _ a5 hm N ⟨a, i, rfl, a6, a7⟩
 have ap := y.n N
 have O := an.up N
 have aq := (b3.up l10).up N
 refine mv (.tuple [a, i].toArray) rfl (Lw.r rfl (R.ext (vs := [a, i]) (v := a) rfl rfl) (Lw.r rfl (R.ext (vs := [a, i]) (v := i) rfl rfl) (Gv a rfl (Nv i rfl (ssr (mv i rfl (Lw.ln D.2 a7.rd rfl (Lw.gt rfl (nl (cn hm (fun hm => ?_) fun hm => ?_))))))))))
 ·refine sr (la O (sta aq (oc_cons e.oc (oc_cons h.oc oc_nil)) fun cf a8 a9 => ?_))
  have P := ap.t a8
  refine Ni rfl ?_
  cases hm
  exact Cw.ret (retA2 rfl a9 rfl (Res.mk P ⟨B, C, rfl, (e.ul P), (h.ul P)⟩))
 ·refine sk (sr (la O (ms rfl (mi rfl (Lw.t rfl (T.bsS (α := Int) (xs := [x]) 6 [] (W := a5) [vI x] (Each.cons ((rdI _)) Each.nil) rfl) ?_)))))
  rintro Q _ ⟨cg, rfl, E, S⟩
  have U := ap.n E
  have V := a6.up E
  refine ms rfl (mv a rfl (Lw.r rfl (R.bd (zs := [.slice none 0 0, vS ([] : Str), .slice none 0 0]) (cs := [Q, vS x2, a]) [(0, Q), (1, vS x2), (2, a)] rfl rfl rfl (bp_cons S.oc rfl (bp_cons rfl rfl (bp_cons V.oc rfl bp_nil)))) (cr hm (fun _ => p47 (K := [0, 4, 6]) (x2 := (Vm.Commit.mk ([x] : List Int) x2 D.1)) ((Repo.rd (K := [0]) x0.Commits x0.Heads (e.ul U) (h.ul U)).sub (M := [0, 4, 6]) rfl) ((Commit.rd (K := [4, 6]) ([x] : List Int) x2 D.1 (S.rd.sub (M := [4, 6]) rfl) (V.rd.sub (M := [4, 6]) rfl)).sub (M := [0, 4, 6]) rfl)) ?_)))
  rintro k _ ch hm z ⟨X, Y, rfl, ba, bb⟩
  have F := ba.sub (M := [0, 4, 6]) rfl
  have G := bb.sub (M := [0, 4, 6]) rfl
  have bc := U.n z
  refine al 7 [.slice none 0 0, .slice none 0 0] fun ci cj b be => ?_
  have bg := bc.n b
  refine sta be (oc_cons F.oc (oc_cons G.oc oc_nil)) fun ck d ar => ?_
  have bh := bg.t d
  refine nl (ssr (la ar ?_))
  have bi := F.up ((b.sub (M := [7]) rfl).trans (d.sub (M := [7]) rfl)) rfl
  have bj := G.up ((b.sub (M := [7]) rfl).trans (d.sub (M := [7]) rfl)) rfl
  refine ca hm (fun _ => p19 (K := [0, 4, 6]) (Repo.rd (K := [0, 4, 6]) k.Commits k.Heads bi bj)) fun cl cm hm f => ?_
  have au := bh.n f
  have av := ((((aq.up E).up z).up b).up d).up f
  refine Lw.r rfl (R.not rfl) (nl (cn hm (fun hm => ?_) fun hm => ?_))
  ·refine sr (la (((((O.up E).up z).up b).up d).up f) (sta av (oc_cons e.oc (oc_cons h.oc oc_nil)) fun co bk bl => ?_))
   have Z := au.t bk
   refine Ni rfl ?_
   cases hm
   exact Cw.ret (retA2 rfl bl rfl (Res.mk Z ⟨B, C, rfl, (e.ul Z), (h.ul Z)⟩))
  ·refine sk (sr (la (ar.up f) (sta av (oc_cons F.oc (oc_cons G.oc oc_nil)) fun cp A bm => ?_)))
   have bn := au.t A
   refine Ni rfl ?_
   have bp := F.up ((b.sub (M := [3, 7]) rfl).trans ((d.sub (M := [3, 7]) rfl).trans ((f.sub (M := [3, 7]) rfl).trans (A.sub (M := [3, 7]) rfl)))) rfl
   have bq := G.up ((b.sub (M := [3, 7]) rfl).trans ((d.sub (M := [3, 7]) rfl).trans ((f.sub (M := [3, 7]) rfl).trans (A.sub (M := [3, 7]) rfl)))) rfl
   obtain ⟨aa, br, ac, ae⟩ := dyeE _ 4
   have bu : Rd aa [0, 6] [X] k.Commits := by rw [ae]; exact (bp.dye 4).sub (M := [0, 6]) rfl
   have bv : Rd aa [0, 6] [Y] k.Heads := by rw [ae]; exact (bq.dye 4).sub (M := [0, 6]) rfl
   have cq : Rd (α := List Vm.File) aa [0] [a] D.1 := by rw [ae]; exact ((((((V.up z).up b).up d).up f).up A).rd.dye 4).sub (M := [0]) rfl
   have bw := bn.t ac
   obtain ⟨af, bz, aw, ah⟩ := dyeE _ 6
   have b0 : Rd af [0] [X] k.Commits := by rw [ah]; exact (bu.dye 6).sub (M := [0]) rfl
   have b2 : Rd af [0] [Y] k.Heads := by rw [ah]; exact (bv.dye 6).sub (M := [0]) rfl
   have ct : Rd (α := List Int) af [0] [Q] ([x] : List Int) := by rw [ah]; exact (((((((S.up z).up b).up d).up f).up A).up ac).rd.dye 6).sub (M := [0]) rfl
   have b4 := bw.t aw
   cases hm
   rw [← bz.trans (br)]
   exact Cw.ret (retA2 rfl ((bm.up ac).up aw) rfl (Res.mk b4 ⟨X, Y, rfl, b0, b2⟩))
theorem p35 {x0 d f x1 x2 x3 h x4 i r} (k : Rd W K [d, f] x0) (x : Rd W K [h] x3) (y : Rd W K [i] x4) (hm : Vm.spec_l10Put x0 x1 x2 x3 x4 = some r) : Q1 35 [.agg [d, f].toArray, vS x1, vS x2, h, i] W [] fun W' v => ∃ a b, v = .tuple [.agg [a, b].toArray, vI r.2].toArray ∧ Rd W' (0 :: K) [a] r.1.Commits ∧ Rd W' (0 :: K) [b] r.1.Heads :=
 (c35 (k.view _) (x.view _) (y.view _) hm).ad (fk 0) fun _ _ ⟨a, b, e, z, A⟩ => ⟨a, b, e, z.back rfl, A.back rfl⟩
theorem c52 {x0 x1 x2 r} (hm : Vm.impl_within x0 x1 x2 = some r) : Q0 52 [vI x0, vI x1, vI x2] W0 fun Wf v => v = vB r := by
 unfold Vm.impl_within at hm
 refine CallR.of Tryz.func52 rfl rfl rfl rfl (sr (Nb rfl ?_))
 obtain ⟨e, f, hm⟩ := jn_e hm
 refine Cw.join 7 14 [6] (fun l w => ∃ b d, CW.w d = w ∧ Le [] W0 d ∧ l = [vB b] ∧ e b = some r) ?_ ?_
 ·rintro _ _ σ ⟨b, d, rfl, h, rfl, hm⟩
  rw [f] at hm
  have i := h.o
  exact .ret (rt hm i)
 ·refine rg (mi rfl (mi rfl (Lw.le rfl (mb rfl (bs hm (fun a hm => ?_) fun a hm => ?_)))))
  ·exact wak 3 a (mi rfl (mi rfl (Lw.le rfl (Pb a rfl (Nb rfl ((ag) ⟨decide ((x0 : Int) ≤ (x2 : Int)), W0, rfl, Le.refl _ _, rfl, hm⟩))))))
  ·exact psk 3 a rfl (Pb a rfl (Nb rfl ((ag) ⟨false, W0, rfl, Le.refl _ _, rfl, hm⟩)))
theorem p52 {x0 x1 x2 r} (hm : Vm.impl_within x0 x1 x2 = some r) : Q1 52 [vI x0, vI x1, vI x2] W [] fun W' v => v = vB r :=
 (c52 (W0 := W.view [] [])  hm).ad (fk 0) fun _ _ e => e
theorem c83 {x0 r} (hm : Vm.impl_wordByte x0 = some r) : Q0 83 [.int .u8 (UInt8.toNat x0 : Int)] W0 fun Wf v => v = vB r := by
 unfold Vm.impl_wordByte at hm
 refine CallR.of Tryz.func83 rfl rfl rfl rfl (sr (Nb rfl ?_))
 obtain ⟨i, k, hm⟩ := jn_e hm
 refine Cw.join 3 16 [2] (fun l w => ∃ f h, CW.w h = w ∧ Le [] W0 h ∧ l = [vB f] ∧ i f = some r) ?_ ?_
 ·rintro _ _ σ ⟨f, h, rfl, x, rfl, hm⟩
  rw [k] at hm
  have y := x.o
  exact .ret (rt hm y)
 ·refine rg (mv (.int .u8 (UInt8.toNat x0 : Int)) rfl (Lw.ge rfl (mb rfl (bs hm (fun b hm => ?_) fun b hm => ?_))))
  ·refine wak 2 b (mv (.int .u8 (UInt8.toNat x0 : Int)) rfl (Lw.le rfl (Pb b rfl (mb rfl (bs hm (fun a hm => ?_) fun a hm => ?_)))))
   ·exact psk 3 a rfl (puk 2 rfl (psk 1 a rfl (Pb a rfl (Nb rfl ((ag) ⟨true, W0, rfl, Le.refl _ _, rfl, hm⟩)))))
   ·refine wak 3 a (mv (.int .u8 (UInt8.toNat x0 : Int)) rfl (Lw.ge rfl (mb rfl (bs hm (fun d hm => ?_) fun d hm => ?_))))
    ·exact wak 2 d (mv (.int .u8 (UInt8.toNat x0 : Int)) rfl (Lw.le rfl (wak 1 a (Pb d rfl (Pb a rfl (Nb rfl ((ag) ⟨decide (((UInt8.toNat x0 : Int) : Int) ≤ (57 : Int)), W0, rfl, Le.refl _ _, rfl, hm⟩)))))))
    ·exact psk 2 d rfl (wak 1 a (Pb d rfl (Pb a rfl (Nb rfl ((ag) ⟨false, W0, rfl, Le.refl _ _, rfl, hm⟩)))))
  ·refine psk 2 b rfl (Pb b rfl (mb rfl (wak 3 rfl (mv (.int .u8 (UInt8.toNat x0 : Int)) rfl (Lw.ge rfl (mb rfl (bs hm (fun e hm => ?_) fun e hm => ?_)))))))
   ·exact wak 2 e (mv (.int .u8 (UInt8.toNat x0 : Int)) rfl (Lw.le rfl (wak 1 rfl (Pb e rfl (Pb rfl rfl (Nb rfl ((ag) ⟨decide (((UInt8.toNat x0 : Int) : Int) ≤ (57 : Int)), W0, rfl, Le.refl _ _, rfl, hm⟩)))))))
   ·exact psk 2 e rfl (wak 1 rfl (Pb e rfl (Pb rfl rfl (Nb rfl ((ag) ⟨false, W0, rfl, Le.refl _ _, rfl, hm⟩)))))
theorem p83 {x0 r} (hm : Vm.impl_wordByte x0 = some r) : Q1 83 [.int .u8 (UInt8.toNat x0 : Int)] W [] fun W' v => v = vB r :=
 (c83 (W0 := W.view [] [])  hm).ad (fk 0) fun _ _ e => e
theorem c50 {x0 r} (hm : Vm.impl_nameOk x0 = some r) : Q0 50 [vS x0] W0 fun Wf v => v = vB r := by
 unfold Vm.impl_nameOk at hm
 refine CallR.of Tryz.func50 rfl rfl rfl rfl (sr (Nb rfl (ssr (ms rfl (Lw.r rfl (R.lenS rfl) (ca hm (fun _ => p52) fun D e hm x => ?_))))))
 have f := x.o
 refine Lw.r rfl (R.not rfl) (nl (cn hm (fun hm => ?_) fun hm => ?_))
 ·exact sr (Nb rfl (.ret (rt hm f)))
 ·refine sk (ssr (Ni rfl (Cw.block ?_)))
  obtain ⟨y, z, hm⟩ := jn_e hm
  refine Cw.loop 8 18 [2, 3] (fun m l w => ∃ a b d, CW.w d = w ∧ Le [] e d ∧ l = [vB a, vI b] ∧ Vm.impl_nameOk_l1 x0 y m a b = some r) _ ⟨false, 0, e, rfl, Le.refl _ _, rfl, hm⟩ ?_
  rintro (_ | E) _ _ σ ⟨a, b, d, rfl, h, rfl, hm⟩
  ·cases hm
  unfold Vm.impl_nameOk_l1 at hm
  have i := f.n h
  refine ssr (mi rfl (ms rfl (Lw.r rfl (R.lenS rfl) (Lw.lt rfl (nl (cn hm (fun hm => ?_) fun hm => ?_))))))
  ·refine sk (Cw.seq (Cw.block (sr (ms rfl (mi rfl ?_)))))
   obtain ⟨F, A, hm⟩ := ob hm
   refine Lw.r rfl (R.chm A rfl rfl) (ca hm (fun _ => p83) fun G B hm k => ?_)
   have C := i.n k
   refine Lw.r rfl (R.not rfl) (nl (cn hm (fun hm => ?_) fun hm => ?_))
   ·exact sr (Nb rfl (.ret (rt hm C)))
   ·exact sk (rg (mi rfl (Lw.add rfl (Ni rfl ((agm) ⟨a, w64 (b + 1), B, rfl, (h.j k).w, rfl, hm⟩)))))
  ·refine Cw.exit ?_
   rw [z] at hm
   exact sr (Nb rfl (.ret (rt hm i)))
theorem p50 {x0 r} (hm : Vm.impl_nameOk x0 = some r) : Q1 50 [vS x0] W [] fun W' v => v = vB r :=
 (c50 (W0 := W.view [] [])  hm).ad (fk 0) fun _ _ e => e
theorem c102 {x0 r} (hm : Vm.impl_lineOk x0 = some r) : Q0 102 [vS x0] W0 fun Wf v => v = vB r := by
 unfold Vm.impl_lineOk at hm
 refine CallR.of Tryz.func102 rfl rfl rfl rfl (sr (Nb rfl (ssr (ms rfl (Lw.r rfl (R.lenS rfl) (Lw.gt rfl (nl (cn hm (fun hm => ?_) fun hm => ?_))))))))
 ·exact sr (Nb rfl (.ret (rt hm (Le.refl _ _))))
 ·refine sk (ssr (Ni rfl (Cw.block ?_)))
  obtain ⟨x, y, hm⟩ := jn_e hm
  refine Cw.loop 7 22 [2, 3] (fun m l w => ∃ d e a, CW.w a = w ∧ Le [] W0 a ∧ l = [vB d, vI e] ∧ Vm.impl_lineOk_l1 x0 x m d e = some r) _ ⟨false, 0, W0, rfl, Le.refl _ _, rfl, hm⟩ ?_
  rintro (_ | F) _ _ σ ⟨d, e, a, rfl, i, rfl, hm⟩
  ·cases hm
  unfold Vm.impl_lineOk_l1 at hm
  have k := i.o
  refine ssr (mi rfl (ms rfl (Lw.r rfl (R.lenS rfl) (Lw.lt rfl (nl (cn hm (fun hm => ?_) fun hm => ?_))))))
  ·refine sk (Cw.seq (Cw.block ?_))
   obtain ⟨z, A, hm⟩ := jn_e hm
   refine Cw.join 13 22 [22] (fun l w => ∃ h f, CW.w f = w ∧ Le [] a f ∧ l = [vB h] ∧ z h = some r) ?_ ?_
   ·rintro _ _ σ ⟨h, f, rfl, l10, rfl, hm⟩
    rw [A] at hm
    have B := k.n l10
    refine cn hm (fun hm => ?_) fun hm => ?_
    ·exact sr (Nb rfl (.ret (rt hm B)))
    ·exact sk (rg (mi rfl (Lw.add rfl (Ni rfl ((agm) ⟨d, w64 (e + 1), f, rfl, (i.j l10).w, rfl, hm⟩)))))
   ·refine rg (ms rfl (mi rfl ?_))
    obtain ⟨G, C, hm⟩ := ob hm
    refine Lw.r rfl (R.chm C rfl rfl) (Lw.lt rfl (mb rfl (bs hm (fun b hm => ?_) fun b hm => ?_)))
    ·exact psk 4 b rfl (Pb b rfl (nl ((ag) ⟨true, a, rfl, Le.refl _ _, rfl, hm⟩)))
    ·refine wak 4 b (ms rfl (mi rfl ?_))
     obtain ⟨D, E, hm⟩ := ob hm
     exact Lw.r rfl (R.chm E rfl rfl) (Lw.gt rfl (Pb b rfl (nl ((ag) ⟨decide ((126 : Int) < ((UInt8.toNat D : Int) : Int)), a, rfl, Le.refl _ _, rfl, hm⟩))))
  ·refine Cw.exit ?_
   rw [y] at hm
   exact sr (Nb rfl (.ret (rt hm k)))
theorem p102 {x0 r} (hm : Vm.impl_lineOk x0 = some r) : Q1 102 [vS x0] W [] fun W' v => v = vB r :=
 (c102 (W0 := W.view [] [])  hm).ad (fk 0) fun _ _ e => e
theorem c84 {x0 a r} (b : Rd W0 [0] [a] x0) (hm : Vm.impl_TextOk x0 = some r) : Q0 84 [a] W0 fun Wf v => v = vB r := by
 unfold Vm.impl_TextOk at hm
 refine CallR.of Tryz.func84 rfl rfl rfl rfl (sr (Nb rfl (ssr (mv a rfl (Lw.ln x0 b rfl (Lw.gt rfl (nl (cn hm (fun hm => ?_) fun hm => ?_))))))))
 ·exact sr (Nb rfl (.ret (rt hm (Le.refl _ _))))
 ·refine sk (ssr (mv a rfl (Lw.ln x0 b rfl (mi rfl (nl (Cw.block ?_))))))
  obtain ⟨z, A, hm⟩ := jn_e hm
  refine Cw.loop 10 17 [2, 4, 10] (fun m l w => ∃ d e i h, CW.w h = w ∧ Le [] W0 h ∧ l = [vB d, i, vI e] ∧ Vm.impl_TextOk_l1 x0 z m d e = some r) _ ⟨false, 0, undef, W0, rfl, Le.refl _ _, rfl, hm⟩ ?_
  rintro (_ | E) _ _ σ ⟨d, e, i, h, rfl, k, rfl, hm⟩
  ·cases hm
  unfold Vm.impl_TextOk_l1 at hm
  have f := k.o
  refine sr (Lw.lt rfl (nl (Cw.seq (cn hm (fun hm => ?_) fun hm => ?_))))
  ·refine sk (Cw.seq (Cw.block (sr ?_)))
   obtain ⟨B, x, hm⟩ := ob hm
   refine Lw.r rfl (R.ix (α := Str) (b.ul f) x rfl rfl rfl) (Lw.r rfl (R.ld rfl rfl ((b.ul f).at_ x).str) (Ns rfl (sr (ms rfl (ca hm (fun _ => p102) fun F C hm y => ?_)))))
   have D := f.n y
   refine Lw.r rfl (R.not rfl) (nl (cn hm (fun hm => ?_) fun hm => ?_))
   ·exact sr (Nb rfl (.ret (rt hm D)))
   ·exact sk (rg (Lw.add rfl (mi rfl (nl ((agm) ⟨d, w64 (e + 1), vS B, C, rfl, (k.j y).w, rfl, hm⟩)))))
  ·refine Cw.exit ?_
   rw [A] at hm
   exact sr (Nb rfl (.ret (rt hm f)))
theorem p84 {x0 a r} (b : Rd W K [a] x0) (hm : Vm.impl_TextOk x0 = some r) : Q1 84 [a] W [] fun W' v => v = vB r :=
 (c84 (b.view _) hm).ad (fk 0) fun _ _ e => e
theorem c85 {x0 r} (C : Gl 0 W0 [0]) (hm : Vm.impl_PathOk x0 = some r) : Q0 85 [vS x0] W0 fun Wf v => v = vB r := by
 unfold Vm.impl_PathOk at hm
 refine CallR.of Tryz.func85 rfl rfl rfl rfl (sr (Nb rfl (sr (ms rfl (cr hm (fun _ => p103 (k0 := 2) C) ?_)))))
 rintro f h k hm D ⟨_, rfl, a⟩
 have x := D.o
 refine Nv h rfl (ssr (mv h rfl (Lw.ln f a.rd rfl (Lw.gt rfl (nl (cn hm (fun hm => ?_) fun hm => ?_))))))
 ·exact sr (Nb rfl (.ret (rt hm x)))
 ·refine sk (ssr (mv h rfl (Lw.ln f a.rd rfl (mi rfl (nl (Cw.block ?_))))))
  obtain ⟨E, F, hm⟩ := jn_e hm
  refine Cw.loop 13 20 [2, 5, 13] (fun m l w => ∃ b d y i, CW.w i = w ∧ Le [] k i ∧ l = [vB b, y, vI d] ∧ Vm.impl_PathOk_l1 f E m b d = some r) _ ⟨false, 0, undef, k, rfl, Le.refl _ _, rfl, hm⟩ ?_
  rintro (_ | J) _ _ σ ⟨b, d, y, i, rfl, e, rfl, hm⟩
  ·cases hm
  unfold Vm.impl_PathOk_l1 at hm
  have z := x.n e
  refine sr (Lw.lt rfl (nl (Cw.seq (cn hm (fun hm => ?_) fun hm => ?_))))
  ·refine sk (Cw.seq (Cw.block (sr ?_)))
   obtain ⟨G, A, hm⟩ := ob hm
   refine Lw.r rfl (R.ix (α := Str) (a.up e).rd A rfl rfl rfl) (Lw.r rfl (R.ld rfl rfl ((a.up e).rd.at_ A).str) (Ns rfl (sr (ms rfl (ca hm (fun _ => p50) fun K H hm B => ?_)))))
   have I := z.n B
   refine Lw.r rfl (R.not rfl) (nl (cn hm (fun hm => ?_) fun hm => ?_))
   ·exact sr (Nb rfl (.ret (rt hm I)))
   ·exact sk (rg (Lw.add rfl (mi rfl (nl ((agm) ⟨b, w64 (d + 1), vS G, H, rfl, (e.j B).w, rfl, hm⟩)))))
  ·refine Cw.exit ?_
   rw [F] at hm
   exact sr (Nb rfl (.ret (rt hm z)))
theorem p85 {x0 r} (a : Gl 0 W K) (hm : Vm.impl_PathOk x0 = some r) : Q1 85 [vS x0] W [] fun W' v => v = vB r :=
 (c85 (a.view _) hm).ad (fk 0) fun _ _ e => e
theorem c86 {x0 x1 r} (h : Gl 0 W0 [0]) (hm : Vm.impl_PathIn x0 x1 = some r) : Q0 86 [vS x0, vS x1] W0 fun Wf v => v = vB r := by
 unfold Vm.impl_PathIn at hm
 refine CallR.of Tryz.func86 rfl rfl rfl rfl (sr (Nb rfl ?_))
 obtain ⟨k, x, hm⟩ := jn_e hm
 refine Cw.join 5 16 [4] (fun l w => ∃ e f, CW.w f = w ∧ Le [] W0 f ∧ l = [vB e] ∧ k e = some r) ?_ ?_
 ·rintro _ _ σ ⟨e, f, rfl, y, rfl, hm⟩
  rw [x] at hm
  have z := y.o
  exact .ret (rt hm z)
 ·refine rg (ms rfl (ca hm (fun _ => p85 h) fun H A hm d => ?_))
  have B := d.o
  refine mb rfl (bs hm (fun a hm => ?_) fun a hm => ?_)
  ·refine wak 2 a (ms rfl (ca hm (fun _ => p85 (h.ul B)) fun I C hm i => Pb a rfl (mb rfl (bs hm (fun b hm => ?_) fun b hm => ?_))))
   ·refine wak 4 b (ms rfl (ms rfl ?_))
    obtain ⟨J, D, hm⟩ := ob hm
    exact Lw.r rfl (R.sad D rfl rfl) (ca hm (fun _ => p104) fun E F hm G => Pb b rfl (Nb rfl ((ag) ⟨E, F, rfl, ((d.j i).j G).w, rfl, hm⟩)))
   ·exact psk 4 b rfl (Pb b rfl (Nb rfl ((ag) ⟨false, C, rfl, (d.j i).w, rfl, hm⟩)))
  ·exact psk 2 a rfl (Pb a rfl (mb rfl (psk 4 rfl rfl (Pb rfl rfl (Nb rfl ((ag) ⟨false, A, rfl, d, rfl, hm⟩))))))
theorem p86 {x0 x1 r} (a : Gl 0 W K) (hm : Vm.impl_PathIn x0 x1 = some r) : Q1 86 [vS x0, vS x1] W [] fun W' v => v = vB r :=
 (c86 (a.view _) hm).ad (fk 0) fun _ _ e => e
theorem c51 {x0 h r} (f : Rd W0 [0] [h] x0) (Z : Gl 0 W0 [0]) (hm : Vm.impl_TreeOk x0 = some r) : Q0 51 [h] W0 fun Wf v => v = vB r := by
 unfold Vm.impl_TreeOk at hm
 refine CallR.of Tryz.func51 rfl rfl rfl rfl (sr (Nb rfl (ssr (mv h rfl (Lw.ln x0 f rfl (Lw.gt rfl (nl (cn hm (fun hm => ?_) fun hm => ?_))))))))
 ·exact sr (Nb rfl (.ret (rt hm (Le.refl _ _))))
 ·refine sk (ssr (mv h rfl (Lw.ln x0 f rfl (mi rfl (nl (Cw.block ?_))))))
  obtain ⟨K8, ar, hm⟩ := jn_e hm
  refine Cw.loop 12 56 [2, 3, 4, 6, 12] (fun m l w => ∃ B d j3 j4 J K, CW.w K = w ∧ Le [2, 3] W0 K ∧ l = [vB B, j3, j4, J, vI d] ∧ Vm.impl_TreeOk_l1 x0 K8 m B d = some r) _ ⟨false, 0, undef, undef, undef, W0, rfl, Le.refl _ _, rfl, hm⟩ ?_
  rintro (_ | m9) _ _ σ ⟨B, d, j3, j4, J, K, rfl, l7, rfl, hm⟩
  ·cases hm
  unfold Vm.impl_TreeOk_l1 at hm
  have i := l7.s
  refine sr (Lw.lt rfl (nl (Cw.seq (cn hm (fun hm => ?_) fun hm => ?_))))
  ·refine sk (Cw.seq (Cw.block (sr (mi rfl ?_))))
   obtain ⟨k, af, hm⟩ := ob hm
   refine Lw.r rfl (R.ix (α := File) (f.ul i) af rfl rfl rfl) ?_
   obtain ⟨x15, c16, _, r17⟩ := ((f.ul i).at_ af).cells
   obtain ⟨bg, rfl, r19⟩ := File.split r17
   refine Lw.r rfl (R.lda c16 rfl rfl) (al 2 [vS ([] : Str), .slice none 0 0] fun au bh ah av => ?_)
   have C := ah.o
   refine Gi rfl (sta av (oc_cons rfl (oc_cons r19.oc oc_nil)) fun aw ai aj => ?_)
   have D := ai.s
   refine nl (Cw.seq ?_)
   obtain ⟨ax, ay, hm⟩ := jn_e hm
   refine Cw.join 17 41 [41] (fun l w => ∃ L z, CW.w z = w ∧ Le [] aw z ∧ l = [vB L] ∧ ax L = some r) ?_ ?_
   ·rintro _ _ σ ⟨L, z, rfl, M, rfl, hm⟩
    rw [ay] at hm
    have E := ((i.trans C).trans D).n M
    refine cn hm (fun hm => ?_) fun hm => ?_
    ·exact sr (Nb rfl (.ret (rt hm E)))
    ·refine sk (sr (mv h rfl (mi rfl ?_)))
     obtain ⟨ak, am, hm⟩ := ob hm
     have r34 := (f.ul E).cutV am
     refine Lw.r rfl (R.sl (f.ul E) am rfl (.inl ⟨rfl, rfl⟩) (.inr rfl)) (Lw.ln ak r34 rfl (mi rfl (nl (Cw.block ?_))))
     obtain ⟨az, a0, hm⟩ := jn_e hm
     refine Cw.loop 46 55 [2, 6, 46] (fun m l w => ∃ A F N G, CW.w G = w ∧ Le [3] z G ∧ l = [vB A, N, vI F] ∧ Vm.impl_TreeOk_l2 k ak az m A F = some r) _ ⟨B, 0, J, z, rfl, Le.refl _ _, rfl, hm⟩ ?_
     rintro (_ | bi) _ _ σ ⟨A, F, N, G, rfl, H, rfl, hm⟩
     ·cases hm
     unfold Vm.impl_TreeOk_l2 at hm
     have O := H.s
     refine sr (Lw.lt rfl (nl (Cw.seq (cn hm (fun hm => ?_) fun hm => ?_))))
     ·refine sk (Cw.seq (Cw.block (sr ?_)))
      obtain ⟨bj, an, hm⟩ := ob hm
      refine Lw.r rfl (R.ix (α := File) (r34.ul O) an rfl rfl rfl) ?_
      obtain ⟨x47, c48, _, r49⟩ := ((r34.ul O).at_ an).cells
      obtain ⟨bk, rfl, r51⟩ := File.split r49
      refine Lw.r rfl (R.lda c48 rfl rfl) (al 3 [vS ([] : Str), .slice none 0 0] fun a1 bl P a2 => ?_)
      have a3 := (E.trans O).n P
      refine sta a2 (oc_cons rfl (oc_cons r51.oc oc_nil)) fun bm Q a4 => ?_
      have ao := a3.t Q
      refine nl (sr (fl a4 rfl (fl ((((aj.up M).up H).up P).up Q) rfl (ca hm (fun _ => p86 (Z.ul ao)) fun bn a5 hm ap => ?_))))
      have a6 := ao.n ap
      refine nl (cn hm (fun hm => ?_) fun hm => ?_)
      ·exact sr (Nb rfl (.ret (rt hm a6)))
      ·exact sk (rg (Lw.add rfl (mi rfl (nl ((agm) ⟨A, w64 (F + 1), ptr (bx a1), a5, rfl, (((H.j P).j Q).j ap).w, rfl, hm⟩)))))
     ·refine Cw.exit ?_
      rw [a0] at hm
      exact rg (Lw.add rfl (mi rfl (nl ((agm) ⟨A, w64 (d + 1), vI d, ptr (bx au), N, G, rfl, ((((l7.j ah).j ai).j M).j H).w, rfl, hm⟩))))
   ·refine Cw.draw [] [(0, 0), (1, 1), (2, 2), (3, 0), (4, 0), (5, 0), (6, 1), (7, 2), (8, 0), (9, 0), (10, 0), (11, 0), (12, 0), (13, 0), (14, 0), (15, 0), (16, 0), (17, 0), (18, 0), (19, 1), (20, 0), (21, 1), (22, 0), (23, 0), (24, 0)] mixed (by kernel_rfl) fun bp x => ?_
    have S := x.o
    have U := aj.up x
    refine Dfl U rfl rfl rfl ?_
    obtain ⟨bq, a7, hm⟩ := ob hm
    refine Mw.t rfl rfl (T.call rfl (p84  (r19.ul ((C.trans D).trans S)) a7)) ?_
    rintro _ _ ⟨a8, rfl, y, rfl⟩
    have a9 := (((i.trans C).trans D).trans S).n y
    refine m0 y fun ba => Mw.p rfl rfl (fun _ => R.not rfl) (Db rfl (bs hm (fun e hm => ?_) fun e hm => ?_))
    ·exact dps 4 e rfl (Mw.p rfl rfl (fun _ => R.pk e rfl (v := vB true) rfl) (Db rfl (dps 3 rfl rfl (dpu 9 rfl (dps 1 rfl rfl (Mw.p rfl rfl (fun _ => R.pk rfl rfl (v := vB true) rfl) (Mw.nil ((ag) ⟨true, a8, rfl, (x.j y).w, rfl, hm⟩))))))))
    ·refine Wp e rfl (fun _ => R.fa rfl) (Wq e rfl (fun _ c => R.ld (v := vS k.Path) rfl rfl (U.clc rfl rfl c)) ?_)
     obtain ⟨bb, bc, hm⟩ := ob hm
     refine Wt e rfl (T.call rfl (p85  (Z.ul a9) bc)) ?_
     rintro _ _ ⟨V, rfl, I, rfl⟩
     refine mc ba I fun br => Wp e rfl (fun _ => R.not rfl) (Mw.p rfl rfl (fun _ => R.pk e rfl (v := vB (!bb)) rfl) (Db rfl (bs hm (fun b hm => ?_) fun b hm => ?_)))
     ·exact dps 3 b rfl (dpu 9 rfl (dps 1 b rfl (Mw.p rfl rfl (fun _ => R.pk b rfl (v := vB true) rfl) (Mw.nil ((ag) ⟨true, V, rfl, ((x.j y).j I).w, rfl, hm⟩)))))
     ·refine Wp b rfl (fun _ => R.mv (v := vI d) rfl) (Wp b rfl (fun _ => R.gt rfl rfl) (Wp b rfl (fun _ => R.mv (v := vB (decide ((0 : Int) < (d : Int)))) rfl) (bs hm (fun a hm => ?_) fun a hm => ?_)))
      ·refine Wp a rfl (fun _ => R.mv (v := h) rfl) (Wp a rfl (fun _ => R.mv (v := vI d) rfl) (Wp a rfl (fun _ => R.sub rfl rfl) ?_))
       obtain ⟨W, X, hm⟩ := ob hm
       have Y := f.ul (((i.trans C).trans D).trans S)
       exact Wp a rfl (fun _ => R.ix (α := File) Y X rfl rfl rfl) (Wp a rfl (fun _ => R.fa rfl) (Wq a rfl (fun _ c => R.ld rfl rfl (cl_cell (File.at0 (Y.at_ X)).1 rfl (File.at0 (Y.at_ X)).str c)) (Wp a rfl (fun _ => R.fa rfl) (Wq a rfl (fun _ c => R.ld (v := vS k.Path) rfl rfl (U.clc rfl rfl c)) (Wp a rfl (fun _ => R.sge rfl rfl) (Wp b rfl (fun _ => R.pk a rfl (v := vB (!Op.bytesLess W.Path k.Path)) rfl) (Mw.p rfl rfl (fun _ => R.pk b rfl (v := vB (!Op.bytesLess W.Path k.Path)) rfl) (Mw.nil ((ag) ⟨(!Op.bytesLess W.Path k.Path), V, rfl, ((x.j y).j I).w, rfl, hm⟩)))))))))
      ·exact dps 9 a rfl (Wp b rfl (fun _ => R.pk a rfl (v := vB false) rfl) (Mw.p rfl rfl (fun _ => R.pk b rfl (v := vB false) rfl) (Mw.nil ((ag) ⟨false, V, rfl, ((x.j y).j I).w, rfl, hm⟩))))
  ·refine Cw.exit ?_
   rw [ar] at hm
   exact sr (Nb rfl (.ret (rt hm i)))
theorem p51 {x0 a r} (b : Rd W K [a] x0) (d : Gl 0 W K) (hm : Vm.impl_TreeOk x0 = some r) : Q1 51 [a] W [] fun W' v => v = vB r :=
 (c51 (b.view _) (d.view _) hm).ad (fk 0) fun _ _ e => e
theorem c55 {x0 a b x1 r} (f : Rd W0 [0] [a, b] x0) (hm : Vm.impl_Repo_exists x0 x1 = some r) : Q0 55 [.agg [a, b].toArray, vI x1] W0 fun Wf v => v = vB r := by
 unfold Vm.impl_Repo_exists at hm
 obtain ⟨z, A, d, h, B⟩ := Repo.split f
 simp only [List.cons.injEq, and_true, true_and] at d
 obtain ⟨rfl, rfl⟩ := d
 refine CallR.of Tryz.func55 rfl rfl rfl rfl (sr (bo 2 rfl fun C D i k => ?_))
 have e := i.o
 refine Nb rfl (sr (mi rfl (fl k rfl (Lw.ln x0.Commits (h.ul e) rfl (Lw.sub rfl (ca hm (fun _ => p52) fun E F hm x => ?_))))))
 have y := e.n x
 exact Nb rfl (.ret (rt hm y))
theorem p55 {x0 a b x1 r} (d : Rd W K [a, b] x0) (hm : Vm.impl_Repo_exists x0 x1 = some r) : Q1 55 [.agg [a, b].toArray, vI x1] W [] fun W' v => v = vB r :=
 (c55 (d.view _) hm).ad (fk 0) fun _ _ e => e
theorem c53 {x0 E F x1 k r} (h0 : Rd W0 [0] [E, F] x0) (f : Rd W0 [0] [k] x1) (hm : Vm.impl_headsOk x0 x1 = some r) : Q0 53 [.agg [E, F].toArray, k] W0 fun Wf v => v = vB r := by
 unfold Vm.impl_headsOk at hm
 obtain ⟨a0, a1, Q, ac, ae⟩ := Repo.split h0
 simp only [List.cons.injEq, and_true, true_and] at Q
 obtain ⟨rfl, rfl⟩ := Q
 refine CallR.of Tryz.func53 rfl rfl rfl rfl (sr (bo 2 rfl fun g1 S l1 b1 => ?_))
 have y := l1.o
 refine Nb rfl (ssr (mv k rfl (Lw.ln x1 (f.ul y) rfl (Lw.gt rfl (nl (cn hm (fun hm => ?_) fun hm => ?_))))))
 ·exact sr (Nb rfl (.ret (rt hm y)))
 ·refine sk (ssr (mv k rfl (Lw.ln x1 (f.ul y) rfl (mi rfl (nl (Cw.block ?_))))))
  obtain ⟨ai, aj, hm⟩ := jn_e hm
  refine Cw.loop 12 43 [4, 5, 6, 12] (fun m l w => ∃ z e U V G, CW.w G = w ∧ Le [3] S G ∧ l = [vB z, U, V, vI e] ∧ Vm.impl_headsOk_l1 x0 x1 ai m z e = some r) _ ⟨false, 0, undef, undef, S, rfl, Le.refl _ _, rfl, hm⟩ ?_
  rintro (_ | a4) _ _ σ ⟨z, e, U, V, G, rfl, H, rfl, hm⟩
  ·cases hm
  unfold Vm.impl_headsOk_l1 at hm
  have A := y.t H
  refine sr (Lw.lt rfl (nl (Cw.seq (cn hm (fun hm => ?_) fun hm => ?_))))
  ·refine sk (Cw.seq (Cw.block (sr (mi rfl ?_))))
   obtain ⟨x, W, hm⟩ := ob hm
   refine Lw.r rfl (R.ix (α := Head) (f.ul A) W rfl rfl rfl) ?_
   obtain ⟨x18, c19, _, r20⟩ := ((f.ul A).at_ W).cells
   obtain rfl := Head.split r20
   refine Lw.r rfl (R.lda c19 rfl rfl) (al 3 [vS ([] : Str), vI 0] fun ak a5 I am => ?_)
   have an := A.n I
   refine Gi rfl (sta am (oc_cons rfl (oc_cons rfl oc_nil)) fun ao J ap => ?_)
   have X := an.t J
   refine nl ?_
   obtain ⟨aq, ar, hm⟩ := jn_e hm
   refine Cw.join 17 42 [42] (fun l w => ∃ L B, CW.w B = w ∧ Le [] ao B ∧ l = [vB L] ∧ aq L = some r) ?_ ?_
   ·rintro _ _ σ ⟨L, B, rfl, Y, rfl, hm⟩
    rw [ar] at hm
    have au := X.n Y
    refine cn hm (fun hm => ?_) fun hm => ?_
    ·exact sr (Nb rfl (.ret (rt hm au)))
    ·exact sk (rg (Lw.add rfl (mi rfl (nl ((agm) ⟨z, w64 (e + 1), vI e, ptr (bx ak), B, rfl, (((H.j I).j J).j Y).w, rfl, hm⟩)))))
   ·refine Cw.draw [] [(0, 0), (1, 1), (2, 2), (3, 0), (4, 0), (5, 1), (6, 0), (7, 1), (8, 2), (9, 0), (10, 0), (11, 0), (12, 0), (13, 0), (14, 0), (15, 0), (16, 0), (17, 0), (18, 0), (19, 0), (20, 1), (21, 0), (22, 1), (23, 0), (24, 0), (25, 0)] mixed (by kernel_rfl) fun a6 h => ?_
    have C := X.n h
    have M := ap.up h
    refine Dfl M rfl rfl rfl ?_
    obtain ⟨a7, av, hm⟩ := ob hm
    refine Mw.t rfl rfl (T.call rfl (p50   av)) ?_
    rintro _ _ ⟨aw, rfl, i, rfl⟩
    have Z := C.n i
    refine m0 i fun ax => Mw.p rfl rfl (fun _ => R.not rfl) (Db rfl (bs hm (fun d hm => ?_) fun d hm => ?_))
    ·exact dps 5 d rfl (Mw.p rfl rfl (fun _ => R.pk d rfl (v := vB true) rfl) (Db rfl (dps 3 rfl rfl (dpu 9 rfl (dps 1 rfl rfl (Mw.p rfl rfl (fun _ => R.pk rfl rfl (v := vB true) rfl) (Mw.nil ((ag) ⟨true, aw, rfl, (h.j i).w, rfl, hm⟩))))))))
    ·refine Wq d rfl (fun _ c => R.lda (cs := [E, F]) (((((b1.up H).up I).up J).up h).clcs rfl c) rfl rfl) (Wp d rfl (fun _ => R.fa rfl) (Wq d rfl (fun _ c => R.ld (v := vI x.At) rfl rfl (M.clc rfl rfl c)) ?_))
     obtain ⟨ay, az, hm⟩ := ob hm
     refine Wt d rfl (T.call rfl (p55  (Repo.rd (K := [0]) x0.Commits x0.Heads (ac.ul Z) (ae.ul Z)) az)) ?_
     rintro _ _ ⟨N, rfl, D, rfl⟩
     refine mc ax D fun a8 => Wp d rfl (fun _ => R.not rfl) (Mw.p rfl rfl (fun _ => R.pk d rfl (v := vB (!ay)) rfl) (Db rfl (bs hm (fun b hm => ?_) fun b hm => ?_)))
     ·exact dps 3 b rfl (dpu 9 rfl (dps 1 b rfl (Mw.p rfl rfl (fun _ => R.pk b rfl (v := vB true) rfl) (Mw.nil ((ag) ⟨true, N, rfl, ((h.j i).j D).w, rfl, hm⟩)))))
     ·refine Wp b rfl (fun _ => R.mv (v := vI e) rfl) (Wp b rfl (fun _ => R.gt rfl rfl) (Wp b rfl (fun _ => R.mv (v := vB (decide ((0 : Int) < (e : Int)))) rfl) (bs hm (fun a hm => ?_) fun a hm => ?_)))
      ·refine Wp a rfl (fun _ => R.mv (v := k) rfl) (Wp a rfl (fun _ => R.mv (v := vI e) rfl) (Wp a rfl (fun _ => R.sub rfl rfl) ?_))
       obtain ⟨O, P, hm⟩ := ob hm
       exact Wp a rfl (fun _ => R.ix (α := Head) (f.ul C) P rfl rfl rfl) (Wp a rfl (fun _ => R.fa rfl) (Wq a rfl (fun _ c => R.ld rfl rfl (cl_cell (Head.at0 ((f.ul C).at_ P)).1 rfl (Head.at0 ((f.ul C).at_ P)).str c)) (Wp a rfl (fun _ => R.fa rfl) (Wq a rfl (fun _ c => R.ld (v := vS x.Name) rfl rfl (M.clc rfl rfl c)) (Wp a rfl (fun _ => R.sge rfl rfl) (Wp b rfl (fun _ => R.pk a rfl (v := vB (!Op.bytesLess O.Name x.Name)) rfl) (Mw.p rfl rfl (fun _ => R.pk b rfl (v := vB (!Op.bytesLess O.Name x.Name)) rfl) (Mw.nil ((ag) ⟨(!Op.bytesLess O.Name x.Name), N, rfl, ((h.j i).j D).w, rfl, hm⟩)))))))))
      ·exact dps 9 a rfl (Wp b rfl (fun _ => R.pk a rfl (v := vB false) rfl) (Mw.p rfl rfl (fun _ => R.pk b rfl (v := vB false) rfl) (Mw.nil ((ag) ⟨false, N, rfl, ((h.j i).j D).w, rfl, hm⟩))))
  ·refine Cw.exit ?_
   rw [aj] at hm
   exact sr (Nb rfl (.ret (rt hm A)))
theorem p53 {x0 a b x1 d r} (f : Rd W K [a, b] x0) (h : Rd W K [d] x1) (hm : Vm.impl_headsOk x0 x1 = some r) : Q1 53 [.agg [a, b].toArray, d] W [] fun W' v => v = vB r :=
 (c53 (f.view _) (h.view _) hm).ad (fk 0) fun _ _ e => e
theorem c27 {x0 aa ac r} (h0 : Rd W0 [0] [aa, ac] x0) (ae : Gl 0 W0 [0]) (hm : Vm.impl_RepoOk x0 = some r) : Q0 27 [.agg [aa, ac].toArray] W0 fun Wf v => v = vB r := by
 unfold Vm.impl_RepoOk at hm
 obtain ⟨b7, b8, af, C, ah⟩ := Repo.split h0
 simp only [List.cons.injEq, and_true, true_and] at af
 obtain ⟨rfl, rfl⟩ := af
 refine CallR.of Tryz.func27 rfl rfl rfl rfl (sr (bo 2 rfl fun g1 W1 l1 G => ?_))
 have H := l1.o
 refine Nb rfl (ssr (fl G rfl (Lw.ln x0.Commits (C.ul H) rfl (Lw.gt rfl (nl (cn hm (fun hm => ?_) fun hm => ?_))))))
 ·exact sr (Nb rfl (.ret (rt hm H)))
 ·refine sk (ssr (fl G rfl (Lw.ln x0.Commits (C.ul H) rfl (mi rfl (nl (Cw.block ?_))))))
  obtain ⟨a9, ba, hm⟩ := jn_e hm
  refine Cw.loop 14 65 [2, 3, 4, 6, 14] (fun m l w => ∃ I B j6 j7 P Q, CW.w Q = w ∧ Le [3] W1 Q ∧ l = [vB I, j6, j7, P, vI B] ∧ Vm.impl_RepoOk_l1 x0 a9 m I B = some r) _ ⟨false, 0, undef, undef, undef, W1, rfl, Le.refl _ _, rfl, hm⟩ ?_
  rintro (_ | cb) _ _ σ ⟨I, B, j6, j7, P, Q, rfl, l10, rfl, hm⟩
  ·cases hm
  unfold Vm.impl_RepoOk_l1 at hm
  have d := H.t l10
  refine sr (Lw.lt rfl (nl (Cw.seq (cn hm (fun hm => ?_) fun hm => ?_))))
  ·refine sk (Cw.seq (Cw.block (sr (mi rfl ?_))))
   obtain ⟨A, am, hm⟩ := ob hm
   refine Lw.r rfl (R.ix (α := Commit) (C.ul d) am rfl rfl rfl) ?_
   obtain ⟨x19, c20, _, r21⟩ := ((C.ul d).at_ am).cells
   obtain ⟨S, an, rfl, r23, r25⟩ := Commit.split r21
   refine Lw.r rfl (R.lda c20 rfl rfl) (al 3 [.slice none 0 0, vS ([] : Str), .slice none 0 0] fun bb cc ao bc => ?_)
   have e := ao.o
   refine Gi rfl (sta bc (oc_cons r23.oc (oc_cons rfl (oc_cons r25.oc oc_nil))) fun be ap aq => ?_)
   have f := ap.s
   refine nl (Cw.seq ?_)
   obtain ⟨bg, bh, hm⟩ := jn_e hm
   refine Cw.join 19 51 [51] (fun l w => ∃ U D, CW.w D = w ∧ Le [] be D ∧ l = [vB U] ∧ bg U = some r) ?_ ?_
   ·rintro _ _ σ ⟨U, D, rfl, V, rfl, hm⟩
    rw [bh] at hm
    have J := V.o
    refine cn hm (fun hm => ?_) fun hm => ?_
    ·exact sr (Nb rfl (.ret (rt hm (((d.trans e).trans f).trans J))))
    ·refine sk (sr (fl (aq.up V) rfl (Lw.ln A.Parents (r23.ul ((e.trans f).trans J)) rfl (mi rfl (nl (Cw.block ?_))))))
     obtain ⟨bi, bj, hm⟩ := jn_e hm
     refine Cw.loop 55 64 [2, 6, 55] (fun m l w => ∃ E L W M, CW.w M = w ∧ Le [] D M ∧ l = [vB E, W, vI L] ∧ Vm.impl_RepoOk_l2 B A bi m E L = some r) _ ⟨I, 0, P, D, rfl, Le.refl _ _, rfl, hm⟩ ?_
     rintro (_ | cd) _ _ σ ⟨E, L, W, M, rfl, X, rfl, hm⟩
     ·cases hm
     unfold Vm.impl_RepoOk_l2 at hm
     have ar := X.o
     refine sr (Lw.lt rfl (nl (Cw.seq (cn hm (fun hm => ?_) fun hm => ?_))))
     ·refine sk (Cw.seq (Cw.block (sr ?_)))
      obtain ⟨bk, au, hm⟩ := ob hm
      have av := r23.ul (((e.trans f).trans J).trans ar)
      refine Lw.r rfl (R.ix (α := Int) av au rfl rfl rfl) (Lw.r rfl (R.ld rfl rfl (av.at_ au).int) (Ni rfl (sr (mi rfl (mi rfl (Lw.sub rfl (ca hm (fun _ => p52) fun ce bl hm aw => ?_)))))))
      have bm := ((((d.trans e).trans f).trans J).trans ar).n aw
      refine Lw.r rfl (R.not rfl) (nl (cn hm (fun hm => ?_) fun hm => ?_))
      ·exact sr (Nb rfl (.ret (rt hm bm)))
      ·exact sk (rg (Lw.add rfl (mi rfl (nl ((agm) ⟨E, w64 (L + 1), vI bk, bl, rfl, (X.j aw).w, rfl, hm⟩)))))
     ·refine Cw.exit ?_
      rw [bj] at hm
      exact rg (Lw.add rfl (mi rfl (nl ((agm) ⟨E, w64 (B + 1), vI B, ptr (bx bb), W, M, rfl, ((((l10.j ao).j ap).j V).j X).w, rfl, hm⟩))))
   ·refine Cw.draw [] [(0, 0), (1, 1), (2, 0), (3, 0), (4, 0), (5, 0), (6, 1), (7, 0), (8, 0), (9, 0), (10, 0), (11, 1), (12, 0), (13, 1), (14, 0), (15, 1), (16, 0), (17, 1), (18, 0), (19, 0), (20, 0), (21, 0), (22, 0), (23, 1), (24, 2), (25, 0), (26, 0), (27, 0), (28, 0), (29, 1), (30, 2), (31, 0), (32, 0)] mixed (by kernel_rfl) fun ax h => ?_
    have F := h.o
    have i := aq.up h
    have k := r23.ul ((e.trans f).trans F)
    refine Dfl i rfl rfl rfl (Mw.p rfl rfl (fun _ => lenR (xs := A.Parents) k rfl) (Mw.p rfl rfl (fun _ => R.gt rfl rfl) (Db rfl (bs hm (fun a hm => ?_) fun a hm => ?_))))
    ·exact dps 5 a rfl (dpu 9 rfl (dps 1 a rfl (Mw.p rfl rfl (fun _ => R.pk a rfl (v := vB true) rfl) (Db rfl (dps 4 rfl rfl (Mw.p rfl rfl (fun _ => R.pk rfl rfl (v := vB true) rfl) (Db rfl (dps 4 rfl rfl (Mw.p rfl rfl (fun _ => R.pk rfl rfl (v := vB true) rfl) (Mw.nil ((ag) ⟨true, ax, rfl, h, rfl, hm⟩)))))))))))
    ·refine Wp a rfl (fun _ => R.fa rfl) (Wq a rfl (fun _ c => R.ld (v := S) rfl rfl (i.clc rfl rfl c)) (Wp a rfl (fun _ => lenR (xs := A.Parents) k rfl) (Wp a rfl (fun _ => R.eq rfl rfl) (Wp a rfl (fun _ => R.mv (v := vB (((A.Parents.length : Int) : Int) == (2 : Int))) rfl) (bs hm (fun b hm => ?_) fun b hm => ?_)))))
     ·refine Wp b rfl (fun _ => R.fa rfl) (Wq b rfl (fun _ c => R.ld (v := S) rfl rfl (i.clc rfl rfl c)) ?_)
      obtain ⟨ay, Y, hm⟩ := ob hm
      refine Wp b rfl (fun _ => R.ix (α := Int) k Y rfl rfl rfl) (Wq b rfl (fun _ c => R.ld rfl rfl (cl_cell (k.at_ Y).1 rfl (k.at_ Y).int c)) (Wp b rfl (fun _ => R.fa rfl) (Wq b rfl (fun _ c => R.ld (v := S) rfl rfl (i.clc rfl rfl c)) ?_)))
      obtain ⟨az, Z, hm⟩ := ob hm
      refine Wp b rfl (fun _ => R.ix (α := Int) k Z rfl rfl rfl) (Wq b rfl (fun _ c => R.ld rfl rfl (cl_cell (k.at_ Z).1 rfl (k.at_ Z).int c)) (Wp b rfl (fun _ => R.eq rfl rfl) (Wp a rfl (fun _ => R.pk b rfl (v := vB ((ay : Int) == (az : Int))) rfl) (Mw.p rfl rfl (fun _ => R.pk a rfl (v := vB ((ay : Int) == (az : Int))) rfl) (Db rfl (bs hm (fun x hm => ?_) fun x hm => ?_))))))
      ·exact dps 4 x rfl (Mw.p rfl rfl (fun _ => R.pk x rfl (v := vB true) rfl) (Db rfl (dps 4 rfl rfl (Mw.p rfl rfl (fun _ => R.pk rfl rfl (v := vB true) rfl) (Mw.nil ((ag) ⟨true, ax, rfl, h, rfl, hm⟩))))))
      ·refine Wp x rfl (fun _ => R.fa rfl) (Wq x rfl (fun _ c => R.ld (v := vS A.Who) rfl rfl (i.clc rfl rfl c)) ?_)
       obtain ⟨bn, bp, hm⟩ := ob hm
       refine Wt x rfl (T.call rfl (p50   bp)) ?_
       rintro _ _ ⟨bq, rfl, N, rfl⟩
       have a0 := N.o
       refine m0 N fun br => Wp x rfl (fun _ => R.not rfl) (Mw.p rfl rfl (fun _ => R.pk x rfl (v := vB (!bn)) rfl) (Db rfl (bs hm (fun y hm => ?_) fun y hm => ?_)))
       ·exact dps 4 y rfl (Mw.p rfl rfl (fun _ => R.pk y rfl (v := vB true) rfl) (Mw.nil ((ag) ⟨true, bq, rfl, (h.j N).w, rfl, hm⟩)))
       ·refine Wp y rfl (fun _ => R.fa rfl) (Wq y rfl (fun _ c => R.ld (v := an) rfl rfl (i.clc rfl rfl c)) ?_)
        obtain ⟨a1, bu, hm⟩ := ob hm
        refine Wt y rfl (T.call rfl (p51  (r25.ul (((e.trans f).trans F).trans a0)) (ae.ul ((((d.trans e).trans f).trans F).trans a0)) bu)) ?_
        rintro _ _ ⟨bv, rfl, a3, rfl⟩
        exact mc br a3 fun cf => Wp y rfl (fun _ => R.not rfl) (Mw.p rfl rfl (fun _ => R.pk y rfl (v := vB (!a1)) rfl) (Mw.nil ((ag) ⟨(!a1), bv, rfl, ((h.j N).j a3).w, rfl, hm⟩)))
     ·refine dps 9 b rfl (Wp a rfl (fun _ => R.pk b rfl (v := vB false) rfl) (Mw.p rfl rfl (fun _ => R.pk a rfl (v := vB false) rfl) (Db rfl (Wp rfl rfl (fun _ => R.fa rfl) (Wq rfl rfl (fun _ c => R.ld (v := vS A.Who) rfl rfl (i.clc rfl rfl c)) ?_)))))
      obtain ⟨bw, bz, hm⟩ := ob hm
      refine Wt rfl rfl (T.call rfl (p50   bz)) ?_
      rintro _ _ ⟨b0, rfl, O, rfl⟩
      have a4 := O.o
      refine m0 O fun b2 => Wp rfl rfl (fun _ => R.not rfl) (Mw.p rfl rfl (fun _ => R.pk rfl rfl (v := vB (!bw)) rfl) (Db rfl (bs hm (fun z hm => ?_) fun z hm => ?_)))
      ·exact dps 4 z rfl (Mw.p rfl rfl (fun _ => R.pk z rfl (v := vB true) rfl) (Mw.nil ((ag) ⟨true, b0, rfl, (h.j O).w, rfl, hm⟩)))
      ·refine Wp z rfl (fun _ => R.fa rfl) (Wq z rfl (fun _ c => R.ld (v := an) rfl rfl (i.clc rfl rfl c)) ?_)
       obtain ⟨a5, b3, hm⟩ := ob hm
       refine Wt z rfl (T.call rfl (p51  (r25.ul (((e.trans f).trans F).trans a4)) (ae.ul ((((d.trans e).trans f).trans F).trans a4)) b3)) ?_
       rintro _ _ ⟨b4, rfl, a6, rfl⟩
       exact mc b2 a6 fun cg => Wp z rfl (fun _ => R.not rfl) (Mw.p rfl rfl (fun _ => R.pk z rfl (v := vB (!a5)) rfl) (Mw.nil ((ag) ⟨(!a5), b4, rfl, ((h.j O).j a6).w, rfl, hm⟩)))
  ·refine Cw.exit ?_
   rw [ba] at hm
   refine sr (la (G.up l10) (fl (G.up l10) rfl (ca hm (fun _ => p53 (Repo.rd (K := [0]) x0.Commits x0.Heads (C.ul d) (ah.ul d)) (ah.ul d)) fun ch ci hm b5 => ?_)))
   have b6 := d.n b5
   exact Nb rfl (.ret (rt hm b6))
theorem p27 {x0 a b r} (d : Rd W K [a, b] x0) (f : Gl 0 W K) (hm : Vm.impl_RepoOk x0 = some r) : Q1 27 [.agg [a, b].toArray] W [] fun W' v => v = vB r :=
 (c27 (d.view _) (f.view _) hm).ad (fk 0) fun _ _ e => e
theorem c54 {x0 h i x1 r} (F : Rd W0 [0] [h, i] x0) (hm : Vm.impl_Repo_at x0 x1 = some r) : Q0 54 [.agg [h, i].toArray, vS x1] W0 fun Wf v => v = vI r := by
 unfold Vm.impl_Repo_at at hm
 obtain ⟨P, Q, k, S, e⟩ := Repo.split F
 simp only [List.cons.injEq, and_true, true_and] at k
 obtain ⟨rfl, rfl⟩ := k
 refine CallR.of Tryz.func54 rfl rfl rfl rfl (sr (bo 2 rfl fun T x G H => ?_))
 have y := G.o
 refine Ni rfl (ssr (fl H rfl (Lw.ln x0.Heads (e.ul y) rfl (mi rfl (nl (Cw.block ?_))))))
 obtain ⟨I, J, hm⟩ := jn_e hm
 refine Cw.loop 10 20 [4, 6, 10] (fun m l w => ∃ a b z f, CW.w f = w ∧ Le [3] x f ∧ l = [vI a, z, vI b] ∧ Vm.impl_Repo_at_l1 x0 x1 I m a b = some r) _ ⟨0, 0, undef, x, rfl, Le.refl _ _, rfl, hm⟩ ?_
 rintro (_ | U) _ _ σ ⟨a, b, z, f, rfl, A, rfl, hm⟩
 ·cases hm
 unfold Vm.impl_Repo_at_l1 at hm
 have d := y.t A
 refine sr (Lw.lt rfl (nl (Cw.seq (cn hm (fun hm => ?_) fun hm => ?_))))
 ·refine sk (Cw.seq (Cw.block (sr ?_)))
  obtain ⟨V, B, hm⟩ := ob hm
  refine Lw.r rfl (R.ix (α := Head) (e.ul d) B rfl rfl rfl) ?_
  obtain ⟨x16, c17, _, r18⟩ := ((e.ul d).at_ B).cells
  obtain rfl := Head.split r18
  refine Lw.r rfl (R.lda c17 rfl rfl) (al 3 [vS ([] : Str), vI 0] fun K W C L => ?_)
  have M := d.n C
  refine sta L (oc_cons rfl (oc_cons rfl oc_nil)) fun N D E => ?_
  have O := M.t D
  refine nl (sr (fl E rfl (ms rfl (Lw.seq rfl (nl (cn hm (fun hm => ?_) fun hm => ?_))))))
  ·exact sr (fl E rfl (Ni rfl (.ret (rt hm O))))
  ·exact sk (rg (Lw.add rfl (mi rfl (nl ((agm) ⟨a, w64 (b + 1), ptr (bx K), N, rfl, ((A.j C).j D).w, rfl, hm⟩)))))
 ·refine Cw.exit ?_
  rw [J] at hm
  exact sr (Ni rfl (.ret (rt hm d)))
theorem p54 {x0 a b x1 r} (d : Rd W K [a, b] x0) (hm : Vm.impl_Repo_at x0 x1 = some r) : Q1 54 [.agg [a, b].toArray, vS x1] W [] fun W' v => v = vI r :=
 (c54 (d.view _) hm).ad (fk 0) fun _ _ e => e
theorem c105 {x0 a r} (f : Rd W0 [0] [a] x0) (hm : Vm.impl_copyText x0 = some r) : Q0 105 [a] W0 fun Wf v => ∃ b, v = b ∧ OwS Wf LL [] [b] r := by
 unfold Vm.impl_copyText at hm
 refine CallR.of Tryz.func105 rfl rfl rfl rfl (sr (Nv (.slice none 0 0) rfl (sr (Lw.t rfl (T.lit0 (α := Str) 2 []) ?_))))
 rintro A _ ⟨B, rfl, h, i⟩
 have d := h.o
 refine mv a rfl ?_
 obtain ⟨C, k, hm⟩ := ob hm
 refine Lw.t rfl (T.appP (α := Str) i (f.ul d) rfl rfl k) ?_
 rintro e _ ⟨D, rfl, x, y⟩
 have z := d.t x
 refine Nv e rfl ?_
 cases hm
 exact Cw.ret (ret1 rfl (Res.mk z ⟨e, rfl, y.s.sub rfl rfl⟩))
theorem p105 {x0 b k0 r} (d : Rd W K [b] x0) (hm : Vm.impl_copyText x0 = some r) : Q1 105 [b] W [] fun W' v => ∃ a, v = a ∧ Ow W' k0 [] [a] r :=
 (c105 (d.view _) hm).ad (fk k0) fun _ _ ⟨a, e, f⟩ => ⟨a, e, f.back (fk_LL _)⟩
theorem c87 {x0 k r} (x : Rd W0 [0] [k] x0) (hm : Vm.impl_copyTree x0 = some r) : Q0 87 [k] W0 fun Wf v => ∃ C, v = C ∧ OwS Wf LL [] [C] r := by
 unfold Vm.impl_copyTree at hm
 refine CallR.of Tryz.func87 rfl rfl rfl rfl (sr (Nv (.slice none 0 0) rfl (sr (Nv (.slice none 0 0) rfl (ssr (mv k rfl (Lw.ln x0 x rfl (mi rfl (nl (Cw.block ?_))))))))))
 obtain ⟨N, O, hm⟩ := jn_e hm
 refine Cw.loop 8 21 [3, 5, 8] (fun m l w => ∃ y e a D f, CW.w f = w ∧ Le [2, 3, 4] W0 f ∧ l = [a, D, vI e] ∧ Ow f 2 [] [a] y ∧ Vm.impl_copyTree_l1 x0 N m y e = some r) _ ⟨([] : List File), 0, .slice none 0 0, undef, W0, rfl, Le.refl _ _, rfl, owN 2 [], hm⟩ ?_
 rintro (_ | m8) _ _ σ ⟨y, e, a, D, f, rfl, E, rfl, F, hm⟩
 ·cases hm
 unfold Vm.impl_copyTree_l1 at hm
 have z := E.s
 refine sr (Lw.lt rfl (nl (Cw.seq (cn hm (fun hm => ?_) fun hm => ?_))))
 ·refine sk (Cw.seq (Cw.block (sr ?_)))
  obtain ⟨b, G, hm⟩ := ob hm
  refine Lw.r rfl (R.ix (α := File) (x.ul z) G rfl rfl rfl) ?_
  obtain ⟨x14, c15, _, r16⟩ := ((x.ul z).at_ G).cells
  obtain ⟨ai, rfl, r18⟩ := File.split r16
  refine Lw.r rfl (R.lda c15 rfl rfl) (al 3 [vS ([] : Str), .slice none 0 0] fun P aj A Q => ?_)
  have S := A.o
  refine sta Q (oc_cons rfl (oc_cons r18.oc oc_nil)) fun ak B H => ?_
  have U := S.t B
  refine nl (Cw.draw [2, 4] [(0, 0), (1, 0), (2, 1), (3, 0), (4, 1), (5, 2), (6, 0), (7, 2), (8, 2), (9, 0)] mixed (by kernel_rfl) fun am d => ?_)
  have V := U.n d
  refine Dv a rfl (Dfl (H.up d) rfl rfl rfl (Dfl (H.up d) rfl rfl rfl (Dc hm (Le.refl _ _) (fun _ => p105 (k0 := 4) (r18.ul V)) rfl ?_)))
  rintro W h an hm I ⟨_, rfl, K⟩ X
  refine Mw.p rfl rfl (fun _ => R.bd (zs := [vS ([] : Str), .slice none 0 0]) (cs := [vS b.Path, h]) [(0, vS b.Path), (1, h)] rfl rfl rfl (bp_cons rfl rfl (bp_cons K.oc rfl bp_nil))) (Mw.t rfl rfl (T.bs 5 [.agg [vS b.Path, h].toArray] (cs := [vS b.Path, h]) rfl rfl (bsA rfl)) ?_)
  rintro _ _ ⟨ao, ap, rfl, rfl, i, Y⟩
  refine mc X i fun Z => ?_
  obtain ⟨aa, ac, hm⟩ := ob hm
  refine Mw.t rfl rfl (T.app1 (α := File) (J := [4]) (K' := []) (((((F.up A).up B).up d).up I).up i) Y (File.own b.Path W (K.up i).s) rfl rfl ac) ?_
  rintro L _ ⟨ae, rfl, M, af⟩
  exact mc Z M fun aq => Hv L rfl (Mw.nil (rg (Lw.add rfl (mi rfl (nl ((agm) ⟨aa, w64 (e + 1), L, ptr (bx P), ae, rfl, ((((((E.j A).j B).j d).j I).j i).j M).w, rfl, af, hm⟩))))))
 ·refine Cw.exit ?_
  rw [O] at hm
  refine sr (mv a rfl (Nv a rfl ?_))
  cases hm
  exact Cw.ret (ret1 rfl (Res.mk z ⟨a, rfl, F.s.sub rfl rfl⟩))
theorem p87 {x0 b k0 r} (d : Rd W K [b] x0) (hm : Vm.impl_copyTree x0 = some r) : Q1 87 [b] W [] fun W' v => ∃ a, v = a ∧ Ow W' k0 [] [a] r :=
 (c87 (d.view _) hm).ad (fk k0) fun _ _ ⟨a, e, f⟩ => ⟨a, e, f.back (fk_LL _)⟩
end Go.Sx
