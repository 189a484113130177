/- Walks: each function answers as its model, printed by a program of ours. Conditions: the arguments read as they are given. -/
import Derived.Test.YtokbhelngoeblaaGreatDoorBTs
import Derived.Test.YtokbhelngoeblaaGreatDoorBM1
import Derived.Test.YtokbhelngoeblaaGreatDoorBW0
import Derived.Test.YtokbhelngoeblaaGreatDoorBW6
import Derived.Test.YtokbhelngoeblaaGreatDoorBW7
import Derived.Test.YtokbhelngoeblaaGreatDoorBE
namespace Go.Sx
open Go Go.Proofs Go.Vm Rp
set_option linter.unusedVariables false
set_option linter.unusedSimpArgs false
variable {W W0 : CW} {K : List Nat}
theorem c112 {x0 Q r} (h0 : Rd W0 [0] [Q] x0) (hm : Vm.zcS x0 = some r) : Q0 112 [Q] W0 fun Wf v => ∃ am an, v = .tuple [.agg [am, an].toArray, vS r.2.1, vS r.2.2.1, vI r.2.2.2].toArray ∧ OwS Wf [31] [] [am] r.1.Commits ∧ OwS Wf [32] [] [an] r.1.Heads := by
 unfold Vm.zcS at hm
 refine zaI.of Tryz.func112 rfl rfl rfl rfl (sr (al 2 [.slice none 0 0, .slice none 0 0] fun E W1 l1 b1 => ?_))
 have a2 := l1.o
 refine Gs rfl (Gs rfl (Ni rfl (sr (mv Q rfl (cr hm (fun _ => p108 (k0 := 3) (h0.ul a2)) ?_)))))
 rintro H _ W6 hm l6 ⟨a, y, rfl, be, bg⟩
 have I := bg.sub (M := [0]) rfl
 have a8 := a2.n l6
 refine Np rfl (sr (mp rfl (cr hm (fun _ => p109 (k0 := 4) (k1 := 5) (c0 := 3) (x0 := H) be I rfl) ?_)))
 rintro B _ dl hm aq ⟨i, k, rfl, ar, au, bi⟩
 have J := aq.s
 refine al 6 [.slice none 0 0, .slice none 0 0] fun dm dn C bj => ?_
 have L := C.o
 refine sta bj (zab (ar.up C).oc (zab (au.up C).oc za3)) fun dp F av => ?_
 have N := F.s
 refine nl (Cw.seq ?_)
 obtain ⟨d, bk, hm⟩ := ob hm
 obtain ⟨e, bl, hm⟩ := ob hm
 obtain ⟨f, bm, hm⟩ := ob hm
 refine Cw.par [[], [], [], [1, 2], [], [], [1, 2, 3, 4, 5], [], [], [1, 2, 3, 4, 5, 6, 7, 8], [0, 1, 2, 3, 4, 5, 6, 7, 8, 9], [0, 1, 2, 3, 4, 5, 6, 7, 8, 9, 10], [0, 1, 2, 3, 4, 5, 6, 7, 8, 9, 10, 11], [0, 1, 2, 3, 4, 5, 6, 7, 8, 9, 10, 11, 12]] [[], [15], [], [1, 2, 15], [], [], [3, 4, 5], [], [], [6, 7, 8], [0, 14], [9], [9], [9]] [[], [], [], [3], [], [], [3], [], [], [3], [2], [], [], []] [[0], [1], [2], [3], [4], [5], [3, 6], [7], [8], [3, 6, 9], [], [11], [12], [13], [], []] [[], [], [7], [3], [], [8], [3], [], [], [3], [2], [], [], [], [2], [3]] [0, 1, 2, 4, 5, 7, 8, 9, 10, 11, 12, 13] [2, 3] [fun vs W => (vs 0) = .agg [i, k].toArray, fun vs W => (vs 1) = ptr (bx a), fun vs W => Ow W 7 [] [(vs 2)] ([([109, 97, 105, 110] : Str), ([115, 105, 100, 101] : Str), ([100, 101, 118] : Str), ([110, 111, 110, 101] : Str)] : List Str), fun vs W => (vs 3) = vS d.1 ∧ Bx W 3 a [y, vI d.2], fun vs W => (vs 4) = ptr (bx a), fun vs W => Ow W 8 [] [(vs 5)] ([([97, 110, 110] : Str), ([97, 110, 110] : Str), ([] : Str)] : List Str), fun vs W => (vs 6) = vS e.1 ∧ (vs 3) = vS d.1 ∧ Bx W 3 a [y, vI e.2], fun vs W => (vs 7) = ptr (bx a), fun vs W => (vs 8) = .agg [i, k].toArray, fun vs W => (vs 9) = vI f.1 ∧ (vs 3) = vS d.1 ∧ (vs 6) = vS e.1 ∧ Bx W 3 a [y, vI f.2], fun vs W => Bx W 2 E [i, k], fun vs W => (vs 11) = vS d.1, fun vs W => (vs 12) = vS e.1, fun vs W => (vs 13) = vI f.1] [fun _ W => Bx W 2 E [.slice none 0 0, .slice none 0 0], fun _ W => Bx W 3 a [y, vI B.2]] mixed (by kernel_rfl) rfl (zpA.cons (fun _ _ l => ((((b1.up l6).up aq).up C).up F).up l rfl) (zpA.cons (fun _ _ l => ((bi.up C).up F).up l rfl) zpA.nil)) ?_
 intro dq G
 have O := G.o
 have S := ((ar.up C).up F).up G
 have U := ((au.up C).up F).up G
 refine ⟨(zcV.cons ?_ (zcV.cons ?_ (zcV.cons ?_ (zcV.cons ?_ (zcV.cons ?_ (zcV.cons ?_ (zcV.cons ?_ (zcV.cons ?_ (zcV.cons ?_ (zcV.cons ?_ (zcV.cons ?_ (zcV.cons ?_ (zcV.cons ?_ (zcV.cons ?_ zcV.nil)))))))))))))), (zg5.cons (fun vs vs' W W' _ hv l hd h => by (show (vs' 0) = .agg [i, k].toArray); rw [hv 0 (za6 rfl)]; exact h) (zg5.cons (fun vs vs' W W' _ hv l hd h => by (show (vs' 1) = ptr (bx a)); rw [hv 1 (za6 rfl)]; exact h) (zg5.cons (fun vs vs' W W' _ hv l hd h => by (show Ow W' 7 [] [(vs' 2)] ([([109, 97, 105, 110] : Str), ([115, 105, 100, 101] : Str), ([100, 101, 118] : Str), ([110, 111, 110, 101] : Str)] : List Str)); rw [hv 2 (za6 rfl)]; exact h.upv l (zdP hd (c := 7) rfl)) (zg5.cons (fun vs vs' W W' _ hv l hd h => by (show (vs' 3) = vS d.1 ∧ Bx W' 3 a [y, vI d.2]); rw [hv 3 (za6 rfl)]; exact ⟨h.1, h.2.up l (zdP hd (c := 3) rfl)⟩) (zg5.cons (fun vs vs' W W' _ hv l hd h => by (show (vs' 4) = ptr (bx a)); rw [hv 4 (za6 rfl)]; exact h) (zg5.cons (fun vs vs' W W' _ hv l hd h => by (show Ow W' 8 [] [(vs' 5)] ([([97, 110, 110] : Str), ([97, 110, 110] : Str), ([] : Str)] : List Str)); rw [hv 5 (za6 rfl)]; exact h.upv l (zdP hd (c := 8) rfl)) (zg5.cons (fun vs vs' W W' _ hv l hd h => by (show (vs' 6) = vS e.1 ∧ (vs' 3) = vS d.1 ∧ Bx W' 3 a [y, vI e.2]); rw [hv 3 (za6 rfl), hv 6 (za6 rfl)]; exact ⟨h.1, h.2.1, h.2.2.up l (zdP hd (c := 3) rfl)⟩) (zg5.cons (fun vs vs' W W' _ hv l hd h => by (show (vs' 7) = ptr (bx a)); rw [hv 7 (za6 rfl)]; exact h) (zg5.cons (fun vs vs' W W' _ hv l hd h => by (show (vs' 8) = .agg [i, k].toArray); rw [hv 8 (za6 rfl)]; exact h) (zg5.cons (fun vs vs' W W' _ hv l hd h => by (show (vs' 9) = vI f.1 ∧ (vs' 3) = vS d.1 ∧ (vs' 6) = vS e.1 ∧ Bx W' 3 a [y, vI f.2]); rw [hv 3 (za6 rfl), hv 6 (za6 rfl), hv 9 (za6 rfl)]; exact ⟨h.1, h.2.1, h.2.2.1, h.2.2.2.up l (zdP hd (c := 3) rfl)⟩) (zg5.cons (fun vs vs' W W' _ hv l hd h => by (show Bx W' 2 E [i, k]); exact h.up l (zdP hd (c := 2) rfl)) (zg5.cons (fun vs vs' W W' _ hv l hd h => by (show (vs' 11) = vS d.1); rw [hv 11 (za6 rfl)]; exact h) (zg5.cons (fun vs vs' W W' _ hv l hd h => by (show (vs' 12) = vS e.1); rw [hv 12 (za6 rfl)]; exact h) (zg5.cons (fun vs vs' W W' _ hv l hd h => by (show (vs' 13) = vI f.1); rw [hv 13 (za6 rfl)]; exact h) (zg5.cons (fun _ _ _ _ _ _ l hd h => h.up l (zdP hd (c := 2) rfl)) (zg5.cons (fun _ _ _ _ _ _ l hd h => h.up l (zdP hd (c := 3) rfl)) zg5.nil)))))))))))))))), ?_⟩
 ·intro vs W lW hN
  obtain ⟨bn, bp⟩ : ∃ X, X = W := ⟨W, rfl⟩
  subst bp
  refine Tr.mono (Run.tr (R.lda (cs := [i, k]) ((av.up G).up lW rfl).cells rfl rfl)) ?_
  rintro _ _ ⟨hu, rfl⟩
  obtain rfl := hu.symm
  exact ⟨bn, rfl, Le.refl _ _, (show (.agg [i, k].toArray : Value) = .agg [i, k].toArray from rfl)⟩
 ·intro vs W lW hN
  obtain ⟨aw, bq⟩ : ∃ X, X = W := ⟨W, rfl⟩
  subst bq
  have dr : Bx aw 3 a [y, vI B.2] := hN 15 (za6 rfl)
  refine Tr.mono (Run.tr (R.mv (v := ptr (bx a)) rfl)) ?_
  rintro _ _ ⟨hu, rfl⟩
  obtain rfl := hu.symm
  exact ⟨aw, rfl, Le.refl _ _, (show (ptr (bx a) : Value) = ptr (bx a) from rfl)⟩
 ·intro vs W lW hN
  obtain ⟨br, bu⟩ : ∃ X, X = W := ⟨W, rfl⟩
  subst bu
  refine Tr.mono (T.bsS (α := Str) (xs := [([109, 97, 105, 110] : Str), ([115, 105, 100, 101] : Str), ([100, 101, 118] : Str), ([110, 111, 110, 101] : Str)]) 7 [] (W := br) [vS ([109, 97, 105, 110] : Str), vS ([115, 105, 100, 101] : Str), vS ([100, 101, 118] : Str), vS ([110, 111, 110, 101] : Str)] (Each.cons ((rdS _)) (Each.cons ((rdS _)) (Each.cons ((rdS _)) (Each.cons ((rdS _)) Each.nil)))) rfl) ?_
  rintro bv _ ⟨ax, rfl, bw, bz⟩
  exact ⟨ax, rfl, bw, (show Ow ax 7 [] [bv] ([([109, 97, 105, 110] : Str), ([115, 105, 100, 101] : Str), ([100, 101, 118] : Str), ([110, 111, 110, 101] : Str)] : List Str) from bz)⟩
 ·intro vs W lW hN
  obtain ⟨ay, b0⟩ : ∃ X, X = W := ⟨W, rfl⟩
  subst b0
  have b2 := (((J.trans L).trans N).trans O).t lW rfl
  have V : vs 1 = ptr (bx a) := (hN 1 (za6 rfl))
  obtain ⟨vs, rfl⟩ := za7 V
  obtain ⟨Y, Z⟩ : ∃ v, vs 2 = v := ⟨_, rfl⟩
  obtain ⟨vs, rfl⟩ := za7 Z
  have b3 : Ow ay 7 [] [Y] ([([109, 97, 105, 110] : Str), ([115, 105, 100, 101] : Str), ([100, 101, 118] : Str), ([110, 111, 110, 101] : Str)] : List Str) := (hN 2 (za6 rfl))
  have b4 : Bx ay 3 a [y, vI B.2] := hN 15 (za6 rfl)
  refine Tr.mono (T.call rfl (p160 (K := [0, 7])  (c0 := 3) (x0 := (Vm.l30Rd.mk H.b B.2)) b4 ((I.ul b2).sub (M := [0, 7]) rfl) (b3.rd.sub (M := [0, 7]) rfl) rfl bk)) ?_
  rintro _ _ ⟨az, rfl, b5, ⟨rfl, b6⟩⟩
  exact ⟨az, rfl, b5, (show (vS d.1 : Value) = vS d.1 ∧ Bx az 3 a [y, vI d.2] from ⟨rfl, b6⟩)⟩
 ·intro vs W lW hN
  obtain ⟨b7, b8⟩ : ∃ X, X = W := ⟨W, rfl⟩
  subst b8
  refine Tr.mono (Run.tr (R.mv (v := ptr (bx a)) rfl)) ?_
  rintro _ _ ⟨hu, rfl⟩
  obtain rfl := hu.symm
  exact ⟨b7, rfl, Le.refl _ _, (show (ptr (bx a) : Value) = ptr (bx a) from rfl)⟩
 ·intro vs W lW hN
  obtain ⟨b9, cb⟩ : ∃ X, X = W := ⟨W, rfl⟩
  subst cb
  refine Tr.mono (T.bsS (α := Str) (xs := [([97, 110, 110] : Str), ([97, 110, 110] : Str), ([] : Str)]) 8 [] (W := b9) [vS ([97, 110, 110] : Str), vS ([97, 110, 110] : Str), vS ([] : Str)] (Each.cons ((rdS _)) (Each.cons ((rdS _)) (Each.cons ((rdS _)) Each.nil))) rfl) ?_
  rintro cc _ ⟨a0, rfl, cd, ce⟩
  exact ⟨a0, rfl, cd, (show Ow a0 8 [] [cc] ([([97, 110, 110] : Str), ([97, 110, 110] : Str), ([] : Str)] : List Str) from ce)⟩
 ·intro vs W lW hN
  obtain ⟨a1, cf⟩ : ∃ X, X = W := ⟨W, rfl⟩
  subst cf
  have cg := (((J.trans L).trans N).trans O).t lW rfl
  have z : vs 3 = vS d.1 := (hN 3 (za6 rfl)).1
  obtain ⟨vs, rfl⟩ := za7 z
  have ch : Bx a1 3 a [y, vI d.2] := (hN 3 (za6 rfl)).2
  have aa : vs 4 = ptr (bx a) := (hN 4 (za6 rfl))
  obtain ⟨vs, rfl⟩ := za7 aa
  obtain ⟨ac, ae⟩ : ∃ v, vs 5 = v := ⟨_, rfl⟩
  obtain ⟨vs, rfl⟩ := za7 ae
  have ci : Ow a1 8 [] [ac] ([([97, 110, 110] : Str), ([97, 110, 110] : Str), ([] : Str)] : List Str) := (hN 5 (za6 rfl))
  refine Tr.mono (T.call rfl (p160 (K := [0, 8])  (c0 := 3) (x0 := (Vm.l30Rd.mk H.b d.2)) ch ((I.ul cg).sub (M := [0, 8]) rfl) (ci.rd.sub (M := [0, 8]) rfl) rfl bl)) ?_
  rintro _ _ ⟨a3, rfl, cj, ⟨rfl, ck⟩⟩
  exact ⟨a3, rfl, cj, (show (vS e.1 : Value) = vS e.1 ∧ (vS d.1) = vS d.1 ∧ Bx a3 3 a [y, vI e.2] from ⟨rfl, rfl, ck⟩)⟩
 ·intro vs W lW hN
  obtain ⟨cl, cm⟩ : ∃ X, X = W := ⟨W, rfl⟩
  subst cm
  refine Tr.mono (Run.tr (R.mv (v := ptr (bx a)) rfl)) ?_
  rintro _ _ ⟨hu, rfl⟩
  obtain rfl := hu.symm
  exact ⟨cl, rfl, Le.refl _ _, (show (ptr (bx a) : Value) = ptr (bx a) from rfl)⟩
 ·intro vs W lW hN
  obtain ⟨co, cp⟩ : ∃ X, X = W := ⟨W, rfl⟩
  subst cp
  refine Tr.mono (Run.tr (R.lda (cs := [i, k]) ((av.up G).up lW rfl).cells rfl rfl)) ?_
  rintro _ _ ⟨hu, rfl⟩
  obtain rfl := hu.symm
  exact ⟨co, rfl, Le.refl _ _, (show (.agg [i, k].toArray : Value) = .agg [i, k].toArray from rfl)⟩
 ·intro vs W lW hN
  obtain ⟨cq, ct⟩ : ∃ X, X = W := ⟨W, rfl⟩
  subst ct
  have cu := (((J.trans L).trans N).trans O).t lW rfl
  have z : vs 3 = vS d.1 := (hN 6 (za6 rfl)).2.1
  obtain ⟨vs, rfl⟩ := za7 z
  have A : vs 6 = vS e.1 := (hN 6 (za6 rfl)).1
  obtain ⟨vs, rfl⟩ := za7 A
  have cv : Bx cq 3 a [y, vI e.2] := (hN 6 (za6 rfl)).2.2
  have af : vs 7 = ptr (bx a) := (hN 7 (za6 rfl))
  obtain ⟨vs, rfl⟩ := za7 af
  have ah : vs 8 = .agg [i, k].toArray := (hN 8 (za6 rfl))
  obtain ⟨vs, rfl⟩ := za7 ah
  refine Tr.mono (T.call rfl (p136 (K := [0, 4, 5])  (c0 := 3) (x0 := (Vm.l30Rd.mk H.b e.2)) (x1 := (Vm.Repo.mk B.1.Commits B.1.Heads)) cv ((I.ul cu).sub (M := [0, 4, 5]) rfl) ((Repo.rd (K := [4, 5]) B.1.Commits B.1.Heads ((S.up lW rfl).rd.sub (M := [4, 5]) rfl) ((U.up lW rfl).rd.sub (M := [4, 5]) rfl)).sub (M := [0, 4, 5]) rfl) rfl bm)) ?_
  rintro _ _ ⟨a4, rfl, cw, ⟨rfl, cx⟩⟩
  exact ⟨a4, rfl, cw, (show (vI f.1 : Value) = vI f.1 ∧ (vS d.1) = vS d.1 ∧ (vS e.1) = vS e.1 ∧ Bx a4 3 a [y, vI f.2] from ⟨rfl, rfl, rfl, cx⟩)⟩
 ·intro vs W lW hN
  obtain ⟨cy, cz⟩ : ∃ X, X = W := ⟨W, rfl⟩
  subst cz
  have ai : vs 0 = .agg [i, k].toArray := (hN 0 (za6 rfl))
  obtain ⟨vs, rfl⟩ := za7 ai
  have c1 : Bx cy 2 E [.slice none 0 0, .slice none 0 0] := hN 14 (za6 rfl)
  refine Tr.mono (T.sta (vs := [i, k]) c1 rfl rfl (zab (S.up lW rfl).oc (zab (U.up lW rfl).oc za3)) rfl rfl) ?_
  rintro _ _ ⟨a5, rfl, c2, c3⟩
  exact ⟨a5, rfl, c2, (show Bx a5 2 E [i, k] from c3)⟩
 ·intro vs W lW hN
  obtain ⟨a6, c4⟩ : ∃ X, X = W := ⟨W, rfl⟩
  subst c4
  have z : vs 3 = vS d.1 := (hN 9 (za6 rfl)).2.1
  obtain ⟨vs, rfl⟩ := za7 z
  have A : vs 6 = vS e.1 := (hN 9 (za6 rfl)).2.2.1
  obtain ⟨vs, rfl⟩ := za7 A
  have D : vs 9 = vI f.1 := (hN 9 (za6 rfl)).1
  obtain ⟨vs, rfl⟩ := za7 D
  have ds : Bx a6 3 a [y, vI f.2] := (hN 9 (za6 rfl)).2.2.2
  refine Tr.mono (Run.tr (R.as (v := vS d.1) rfl)) ?_
  rintro _ _ ⟨hu, rfl⟩
  obtain rfl := hu.symm
  exact ⟨a6, rfl, Le.refl _ _, (show (vS d.1 : Value) = vS d.1 from rfl)⟩
 ·intro vs W lW hN
  obtain ⟨a7, c5⟩ : ∃ X, X = W := ⟨W, rfl⟩
  subst c5
  have z : vs 3 = vS d.1 := (hN 9 (za6 rfl)).2.1
  obtain ⟨vs, rfl⟩ := za7 z
  have A : vs 6 = vS e.1 := (hN 9 (za6 rfl)).2.2.1
  obtain ⟨vs, rfl⟩ := za7 A
  have D : vs 9 = vI f.1 := (hN 9 (za6 rfl)).1
  obtain ⟨vs, rfl⟩ := za7 D
  have dt : Bx a7 3 a [y, vI f.2] := (hN 9 (za6 rfl)).2.2.2
  refine Tr.mono (Run.tr (R.as (v := vS e.1) rfl)) ?_
  rintro _ _ ⟨hu, rfl⟩
  obtain rfl := hu.symm
  exact ⟨a7, rfl, Le.refl _ _, (show (vS e.1 : Value) = vS e.1 from rfl)⟩
 ·intro vs W lW hN
  obtain ⟨a9, c6⟩ : ∃ X, X = W := ⟨W, rfl⟩
  subst c6
  have z : vs 3 = vS d.1 := (hN 9 (za6 rfl)).2.1
  obtain ⟨vs, rfl⟩ := za7 z
  have A : vs 6 = vS e.1 := (hN 9 (za6 rfl)).2.2.1
  obtain ⟨vs, rfl⟩ := za7 A
  have D : vs 9 = vI f.1 := (hN 9 (za6 rfl)).1
  obtain ⟨vs, rfl⟩ := za7 D
  have du : Bx a9 3 a [y, vI f.2] := (hN 9 (za6 rfl)).2.2.2
  refine Tr.mono (Run.tr (R.as (v := vI f.1) rfl)) ?_
  rintro _ _ ⟨hu, rfl⟩
  obtain rfl := hu.symm
  exact ⟨a9, rfl, Le.refl _ _, (show (vI f.1 : Value) = vI f.1 from rfl)⟩
 ·intro vs W lW hN
  obtain ⟨P, c7⟩ : ∃ X, X = W := ⟨W, rfl⟩
  subst c7
  have c8 := ((((a8.trans J).trans L).trans N).trans O).t lW rfl
  obtain ⟨dv, hl211⟩ : ∃ x, x = lW := ⟨lW, rfl⟩
  have ai : vs 0 = .agg [i, k].toArray := (hN 0 (za6 rfl))
  obtain ⟨vs, rfl⟩ := za7 ai
  have V : vs 1 = ptr (bx a) := (hN 1 (za6 rfl))
  obtain ⟨vs, rfl⟩ := za7 V
  obtain ⟨Y, Z⟩ : ∃ v, vs 2 = v := ⟨_, rfl⟩
  obtain ⟨vs, rfl⟩ := za7 Z
  have dw : Ow P 7 [] [Y] ([([109, 97, 105, 110] : Str), ([115, 105, 100, 101] : Str), ([100, 101, 118] : Str), ([110, 111, 110, 101] : Str)] : List Str) := (hN 2 (za6 rfl))
  have aa : vs 4 = ptr (bx a) := (hN 4 (za6 rfl))
  obtain ⟨vs, rfl⟩ := za7 aa
  obtain ⟨ac, ae⟩ : ∃ v, vs 5 = v := ⟨_, rfl⟩
  obtain ⟨vs, rfl⟩ := za7 ae
  have dx : Ow P 8 [] [ac] ([([97, 110, 110] : Str), ([97, 110, 110] : Str), ([] : Str)] : List Str) := (hN 5 (za6 rfl))
  have af : vs 7 = ptr (bx a) := (hN 7 (za6 rfl))
  obtain ⟨vs, rfl⟩ := za7 af
  have ah : vs 8 = .agg [i, k].toArray := (hN 8 (za6 rfl))
  obtain ⟨vs, rfl⟩ := za7 ah
  have z : vs 3 = vS d.1 := (hN 9 (za6 rfl)).2.1
  obtain ⟨vs, rfl⟩ := za7 z
  have A : vs 6 = vS e.1 := (hN 9 (za6 rfl)).2.2.1
  obtain ⟨vs, rfl⟩ := za7 A
  have D : vs 9 = vI f.1 := (hN 9 (za6 rfl)).1
  obtain ⟨vs, rfl⟩ := za7 D
  have dy : Bx P 3 a [y, vI f.2] := (hN 9 (za6 rfl)).2.2.2
  have c9 : Bx P 2 E [i, k] := (hN 10 (za6 rfl))
  have da : vs 11 = vS d.1 := (hN 11 (za6 rfl))
  obtain ⟨vs, rfl⟩ := za7 da
  have db : vs 12 = vS e.1 := (hN 12 (za6 rfl))
  obtain ⟨vs, rfl⟩ := za7 db
  have dc : vs 13 = vI f.1 := (hN 13 (za6 rfl))
  obtain ⟨vs, rfl⟩ := za7 dc
  obtain ⟨dz, dd, aj, de⟩ := (S.up lW rfl).dyeO 31
  have df := c8.t aj
  obtain ⟨d0, dg, ak, dh⟩ := ((U.up lW rfl).up aj).dyeO 32
  have di := df.t ak
  cases hm
  rw [← dg.trans (dd)]
  exact Cw.ret (zv5 (zjk.c rfl ((c9.up aj).up ak) (zjk.t rfl (zjk.t rfl (zjk.t rfl zjk.n)))) (Res.mk di ⟨i, k, rfl, (de.up ak).s, dh.s⟩))
theorem p112 {x0 d k0 k1 r} (f : Rd W K [d] x0) (hm : Vm.zcS x0 = some r) : Q1 112 [d] W [] fun W' v => ∃ a b, v = .tuple [.agg [a, b].toArray, vS r.2.1, vS r.2.2.1, vI r.2.2.2].toArray ∧ Ow W' k0 [] [a] r.1.Commits ∧ Ow W' k1 [] [b] r.1.Heads :=
 zaI.adJ (J := []) (fun c => bif Nat.beq c 0 then 0 else bif Nat.beq c 31 then k0 else bif Nat.beq c 32 then k1 else 0) (c112 (f.view _) hm) fun _ _ ⟨a, b, e, h, i⟩ => ⟨a, b, e, h.one1.backN rfl, i.one1.backN rfl⟩
theorem c65 {x0 h i x1 r} (F : Rd W0 [0] [h, i] x0) (hm : Vm.zfA x0 x1 = some r) : Q0 65 [.agg [h, i].toArray, vS x1] W0 fun Wf v => v = vI r := by
 unfold Vm.zfA at hm
 obtain ⟨P, Q, k, S, e⟩ := Repo.split F
 simp only [List.cons.injEq, and_true, true_and] at k
 obtain ⟨rfl, rfl⟩ := k
 refine zaI.of Tryz.func65 rfl rfl rfl rfl (sr (bo 2 rfl fun T x G H => ?_))
 have y := G.o
 refine Ni rfl (ssr (fl H rfl (Lw.ln x0.Heads (e.ul y) rfl (mi rfl (nl (Cw.block ?_))))))
 obtain ⟨I, J, hm⟩ := zc1 hm
 refine Cw.loop 10 20 [4, 6, 10] (fun m l w => ∃ a b z f, CW.w f = w ∧ Le [3] x f ∧ l = [vI a, z, vI b] ∧ Vm.zc0 x0 x1 I m a b = some r) _ ⟨0, 0, undef, x, rfl, Le.refl _ _, rfl, hm⟩ ?_
 rintro (_ | U) _ _ σ ⟨a, b, z, f, rfl, A, rfl, hm⟩
 ·cases hm
 unfold Vm.zc0 at hm
 have d := y.t A
 refine sr (Lw.lt rfl (nl (Cw.seq (cn hm (fun hm => ?_) fun hm => ?_))))
 ·refine sk (Cw.seq (Cw.block (sr ?_)))
  obtain ⟨V, B, hm⟩ := ob hm
  refine Lw.r rfl (R.ix (α := Head) (e.ul d) B rfl rfl rfl) ?_
  obtain ⟨x16, c17, _, r18⟩ := ((e.ul d).at_ B).cells
  obtain rfl := Head.split r18
  refine Lw.r rfl (R.lda c17 rfl rfl) (al 3 [vS ([] : Str), vI 0] fun K W C L => ?_)
  have M := d.n C
  refine sta L (zab rfl (zab rfl za3)) fun N D E => ?_
  have O := M.t D
  refine nl (sr (fl E rfl (ms rfl (Lw.seq rfl (nl (cn hm (fun hm => ?_) fun hm => ?_))))))
  ·exact sr (fl E rfl (Ni rfl (.ret (rt hm O))))
  ·exact sk (rg (Lw.add rfl (mi rfl (nl ((agm) ⟨a, w64 (b + 1), ptr (bx K), N, rfl, ((A.j C).j D).w, rfl, hm⟩)))))
 ·refine Cw.exit ?_
  rw [J] at hm
  exact sr (Ni rfl (.ret (rt hm d)))
theorem p65 {x0 a b x1 r} (d : Rd W K [a, b] x0) (hm : Vm.zfA x0 x1 = some r) : Q1 65 [.agg [a, b].toArray, vS x1] W [] fun W' v => v = vI r :=
 (c65 (d.view _) hm).ad (fk 0) fun _ _ e => e
theorem c67 {x0 Z aa r} (h0 : Rd W0 [0] [Z, aa] x0) (hm : Vm.zbn x0 = some r) : Q0 67 [.agg [Z, aa].toArray] W0 fun Wf v => ∃ ac ae, v = .agg [ac, ae].toArray ∧ OwS Wf [31] [] [ac] r.Commits ∧ OwS Wf [32] [] [ae] r.Heads := by
 unfold Vm.zbn at hm
 obtain ⟨cl, cm, af, H, az⟩ := Repo.split h0
 simp only [List.cons.injEq, and_true, true_and] at af
 obtain ⟨rfl, rfl⟩ := af
 refine zaI.of Tryz.func67 rfl rfl rfl rfl (sr (bo 2 rfl fun g1 W1 l1 b1 => ?_))
 have a2 := l1.o
 refine al 3 [.slice none 0 0, .slice none 0 0] fun g3 W3 l3 b3 => ?_
 have a4 := a2.n l3
 refine nl (sr (Lw.t rfl (T.lit0 (α := Head) 4 []) ?_))
 rintro v6 _ ⟨W6, rfl, I, o6⟩
 have a7 := a4.n I
 have b8 := (b1.up l3).up I
 refine fl b8 rfl ?_
 obtain ⟨a9, ba, hm⟩ := ob hm
 refine Lw.t rfl (T.appP (α := Head) o6 (az.ul a7) rfl rfl ba) ?_
 rintro K _ ⟨cw, rfl, L, M⟩
 have bb := a7.t L
 refine Lw.r rfl (R.bd (zs := [.slice none 0 0, .slice none 0 0]) (cs := [.slice none 0 0, K]) [(1, K)] rfl rfl rfl (zbo M.oc rfl zfH)) (al 5 [.slice none 0 0, .slice none 0 0] fun bc cx i be => ?_)
 have bg := bb.n i
 refine sta be (zab rfl (zab (M.up i).oc za3)) fun ak A bh => ?_
 have am := bg.t A
 refine nl (ssr (fl (((b8.up L).up i).up A) rfl (Lw.ln x0.Commits (H.ul am) rfl (mi rfl (nl (Cw.block ?_))))))
 obtain ⟨bi, bj, hm⟩ := zc1 hm
 refine Cw.loop 14 33 [5, 14] (fun m l w => ∃ B N C an D k b, CW.w b = w ∧ Le [5, 6, 7, 8, 9] ak b ∧ l = [an, vI B] ∧ Ow b 6 [] [D] N ∧ Ow b 4 [] [k] C ∧ Bx b 5 bc [D, k] ∧ Vm.zck x0 bi m B N C = some r) _ ⟨0, ([] : List Commit), a9, undef, .slice none 0 0, K, ak, rfl, Le.refl _ _, rfl, owN 6 [], ((M.up i).up A), bh, hm⟩ ?_
 rintro (_ | cy) _ _ σ ⟨B, N, C, an, D, k, b, rfl, O, rfl, P, Q, ao, hm⟩
 ·cases hm
 unfold Vm.zck at hm
 have S := am.t O
 refine sr (Lw.lt rfl (nl (Cw.seq (cn hm (fun hm => ?_) fun hm => ?_))))
 ·refine sk (Cw.seq (Cw.block (sr ?_)))
  obtain ⟨x, ap, hm⟩ := ob hm
  refine Lw.r rfl (R.ix (α := Commit) (H.ul S) ap rfl rfl rfl) ?_
  obtain ⟨x47, c48, _, r49⟩ := ((H.ul S).at_ ap).cells
  obtain ⟨cz, c0, rfl, r51, r53⟩ := Commit.split r49
  refine Lw.r rfl (R.lda c48 rfl rfl) (al 7 [.slice none 0 0, vS ([] : Str), .slice none 0 0] fun bk c1 y bl => ?_)
  have bm := y.o
  refine sta bl (zab r51.oc (zab rfl (zab r53.oc za3))) fun c2 z bn => ?_
  have bp := bm.t z
  refine nl (Cw.draw [6, 8, 9] [(0, 0), (1, 1), (3, 0), (4, 1), (6, 0), (7, 1), (8, 0), (9, 1), (2, 2), (5, 2), (10, 2), (11, 0), (12, 2), (13, 2), (14, 0), (15, 3)] mixed (by kernel_rfl) fun c3 d => ?_)
  have bq := bp.n d
  have aq := ((ao.up y).up z).up d
  have U := bn.up d
  refine Dfl aq rfl rfl rfl (Dfl U rfl rfl rfl (Dfl U rfl rfl rfl (Dfl U rfl rfl rfl (Mw.t rfl rfl (T.lit0 (α := Int) 8 []) ?_))))
  rintro c4 _ ⟨c5, rfl, e, br⟩
  have ar := bq.n e
  refine m0 e fun bu => ?_
  obtain ⟨bv, bw, hm⟩ := ob hm
  refine Mw.t rfl rfl (T.appP (α := Int) br (r51.ul ar) rfl rfl bw) ?_
  rintro E _ ⟨c6, rfl, f, au⟩
  have bz := ar.t f
  refine mc bu f fun b0 => Dc hm b0 (fun _ => p88 (k0 := 9) (r53.ul bz)) rfl ?_
  rintro b2 F c7 hm h ⟨_, rfl, av⟩ b4
  refine Mw.p rfl rfl (fun _ => R.bd (zs := [.slice none 0 0, vS ([] : Str), .slice none 0 0]) (cs := [E, vS x.Who, F]) [(0, E), (1, vS x.Who), (2, F)] rfl rfl rfl (zbo (au.up h).oc rfl (zbo rfl rfl (zbo av.oc rfl zfH)))) (Mw.t rfl rfl (T.bs 10 [.agg [E, vS x.Who, F].toArray] (cs := [E, vS x.Who, F]) rfl rfl (bsA rfl)) ?_)
  rintro _ _ ⟨c8, c9, rfl, rfl, a, b5⟩
  refine mc b4 a fun b6 => ?_
  obtain ⟨b7, b9, hm⟩ := ob hm
  refine Mw.t rfl rfl (T.app1 (α := Commit) (J := [8, 9]) (K' := []) (((((((P.up y).up z).up d).up e).up f).up h).up a) b5 (Commit.own bv x.Who b2 ((au.up h).up a).s (av.up a).s) rfl rfl b9) ?_
  rintro aw _ ⟨da, rfl, G, ax⟩
  refine mc b6 G fun db => Df rfl (Mw.lu rfl (T.st (j := 0) (v := aw) (((((aq.up e).up f).up h).up a).up G) rfl rfl ax.oc rfl rfl) ?_)
  rintro _ _ ⟨cb, rfl, V, cc⟩
  exact Mw.nil (rg (Lw.add rfl (mi rfl (nl ((agm) ⟨w64 (B + 1), b7, C, ptr (bx bk), aw, k, cb, rfl, (((((((((O.j y).j z).j d).j e).j f).j h).j a).j G).j V).w, rfl, (ax.up V), (((((((((Q.up y).up z).up d).up e).up f).up h).up a).up G).up V), cc, hm⟩)))))
 ·refine Cw.exit ?_
  rw [bj] at hm
  refine sr (la ao (sta (((((b3.up I).up L).up i).up A).up O) (zab P.oc (zab Q.oc za3)) fun dc W cd => ?_))
  have ce := S.t W
  refine nl ?_
  obtain ⟨dd, cf, X, cg⟩ := (P.up W).dyeO 31
  have ch := ce.t X
  obtain ⟨de, ci, Y, cj⟩ := ((Q.up W).up X).dyeO 32
  have ck := ch.t Y
  cases hm
  rw [← ci.trans (cf)]
  exact Cw.ret (znv rfl ((cd.up X).up Y) (Res.mk ck ⟨D, k, rfl, (cg.up Y).s, cj.s⟩))
theorem p67 {x0 d f k0 k1 r} (h : Rd W K [d, f] x0) (hm : Vm.zbn x0 = some r) : Q1 67 [.agg [d, f].toArray] W [] fun W' v => ∃ a b, v = .agg [a, b].toArray ∧ Ow W' k0 [] [a] r.Commits ∧ Ow W' k1 [] [b] r.Heads :=
 zaI.adJ (J := []) (fun c => bif Nat.beq c 0 then 0 else bif Nat.beq c 31 then k0 else bif Nat.beq c 32 then k1 else 0) (c67 (h.view _) hm) fun _ _ ⟨a, b, e, i, k⟩ => ⟨a, b, e, i.one1.backN rfl, k.one1.backN rfl⟩
theorem c128 {x0 d e x1 r} (y : Rd W0 [0] [d, e] x0) (hm : Vm.zbJ x0 x1 = some r) : Q0 128 [.agg [d, e].toArray, vI x1] W0 fun Wf v => v = vI r := by
 unfold Vm.zbJ at hm
 obtain ⟨C, D, f, z, E⟩ := Repo.split y
 simp only [List.cons.injEq, and_true, true_and] at f
 obtain ⟨rfl, rfl⟩ := f
 refine zaI.of Tryz.func128 rfl rfl rfl rfl (sr (bo 2 rfl fun F G A h => ?_))
 have b := A.o
 refine Ni rfl (ssr (fl h rfl (mi rfl ?_)))
 obtain ⟨B, i, hm⟩ := ob hm
 have a := z.ul b
 refine Lw.r rfl (R.ix (α := Commit) a i rfl rfl rfl) (Lw.fa rfl ?_)
 obtain ⟨H, c7, r8⟩ := (Commit.at0 (a.at_ i)).cell rfl
 refine Lw.r rfl (R.ld rfl rfl c7) (Lw.ln B.Parents r8 rfl (Lw.eq rfl (nl (cn hm (fun hm => ?_) fun hm => ?_))))
 ·exact sr (Ni rfl (.ret (rt hm b)))
 ·refine sk (sr (fl h rfl (mi rfl ?_)))
  obtain ⟨I, k, hm⟩ := ob hm
  refine Lw.r rfl (R.ix (α := Commit) a k rfl rfl rfl) (Lw.fa rfl ?_)
  obtain ⟨J, c13, r14⟩ := (Commit.at0 (a.at_ k)).cell rfl
  refine Lw.r rfl (R.ld rfl rfl c13) ?_
  obtain ⟨K, x, hm⟩ := ob hm
  exact Lw.r rfl (R.ix (α := Int) r14 x rfl rfl rfl) (Lw.r rfl (R.ld rfl rfl (r14.at_ x).int) (Ni rfl (.ret (rt hm b))))
theorem p128 {x0 a b x1 r} (d : Rd W K [a, b] x0) (hm : Vm.zbJ x0 x1 = some r) : Q1 128 [.agg [a, b].toArray, vI x1] W [] fun W' v => v = vI r :=
 (c128 (d.view _) hm).ad (fk 0) fun _ _ e => e
theorem c126 {x0 d x1 r} (i : Rd W0 [0] [d] x0) (h1 : Rd W0 [0] [vS x1.Name, vI x1.At] x1) (hm : Vm.zeA x0 x1 = some r) : Q0 126 [d, .agg [vS x1.Name, vI x1.At].toArray] W0 fun Wf v => ∃ P, v = P ∧ OwS Wf LL [] [P] r := by
 unfold Vm.zeA at hm
 refine zaI.of Tryz.func126 rfl rfl rfl rfl (sr (bo 2 rfl fun g1 Q l1 S => ?_))
 have U := l1.o
 refine Nv (.slice none 0 0) rfl (sr (mv d rfl (Lw.ln x0 (i.ul U) rfl (Ni rfl (Cw.seq (Cw.block ?_))))))
 obtain ⟨K6, ao, hm⟩ := zc1 hm
 refine Cw.loop 8 22 [5] (fun m l w => ∃ b y, CW.w y = w ∧ Le [] Q y ∧ l = [vI b] ∧ Vm.zdl x0 x1 K6 m b = some r) _ ⟨(x0.length : Int), Q, rfl, Le.refl _ _, rfl, hm⟩ ?_
 rintro (_ | m7) _ _ σ ⟨b, y, rfl, z, rfl, hm⟩
 ·cases hm
 unfold Vm.zdl at hm
 have V := U.n z
 refine Cw.seq ?_
 obtain ⟨ap, aq, hm⟩ := zc1 hm
 refine Cw.join 8 20 [20] (fun l w => ∃ E A, CW.w A = w ∧ Le [] y A ∧ l = [vB E] ∧ ap E = some r) ?_ ?_
 ·rintro _ _ σ ⟨E, A, rfl, F, rfl, hm⟩
  rw [aq] at hm
  have ar := V.n F
  refine cn hm (fun hm => ?_) fun hm => ?_
  ·exact sk (Cw.block (rg (mi rfl (Lw.sub rfl (Ni rfl ((agm) ⟨w64 (b - 1), A, rfl, (z.j F).w, rfl, hm⟩))))))
  ·refine Cw.exit ?_
   rw [ao] at hm
   refine Cw.seq ?_
   obtain ⟨B, au, hm⟩ := ob hm
   obtain ⟨k, av, hm⟩ := ob hm
   refine Cw.par [[], [], [0, 1], [], [], [4], [0, 1, 2, 3, 4, 5], [0, 1, 2, 3, 4, 5, 6]] [[], [], [0, 1], [], [], [4], [2, 3, 5], [6]] [[], [], [3], [], [], [], [3], []] [[0], [1], [2], [3], [4], [5], [6], [6, 7]] [[3], [], [3], [], [], [4], [5], []] [1, 3, 4, 5, 6, 7] [3] [fun vs W => Ow W 3 [] [(vs 0)] ([] : List Head), fun vs W => (vs 1) = d, fun vs W => Ow W 3 [] [(vs 2)] B, fun vs W => (vs 3) = vI b, fun vs W => (vs 4) = .agg [vS x1.Name, vI x1.At].toArray, fun vs W => (vs 5) = .slice (some (bx (pg (vs 5)))) 1 1 ∧ Bx W 4 (pg (vs 5)) [vS x1.Name, vI x1.At], fun vs W => Ow W 5 [] [(vs 6)] k, fun vs W => (vs 7) = (vs 6)] [] mixed (by kernel_rfl) rfl zpA.nil ?_
   intro b8 Y
   have Z := ar.n Y
   refine ⟨(zcV.cons ?_ (zcV.cons ?_ (zcV.cons ?_ (zcV.cons ?_ (zcV.cons ?_ (zcV.cons ?_ (zcV.cons ?_ (zcV.cons ?_ zcV.nil)))))))), (zg5.cons (fun vs vs' W W' _ hv l hd h => by (show Ow W' 3 [] [(vs' 0)] ([] : List Head)); rw [hv 0 (za6 rfl)]; exact h.upv l (zdP hd (c := 3) rfl)) (zg5.cons (fun vs vs' W W' _ hv l hd h => by (show (vs' 1) = d); rw [hv 1 (za6 rfl)]; exact h) (zg5.cons (fun vs vs' W W' _ hv l hd h => by (show Ow W' 3 [] [(vs' 2)] B); rw [hv 2 (za6 rfl)]; exact h.upv l (zdP hd (c := 3) rfl)) (zg5.cons (fun vs vs' W W' _ hv l hd h => by (show (vs' 3) = vI b); rw [hv 3 (za6 rfl)]; exact h) (zg5.cons (fun vs vs' W W' _ hv l hd h => by (show (vs' 4) = .agg [vS x1.Name, vI x1.At].toArray); rw [hv 4 (za6 rfl)]; exact h) (zg5.cons (fun vs vs' W W' _ hv l hd h => by (show (vs' 5) = .slice (some (bx (pg (vs' 5)))) 1 1 ∧ Bx W' 4 (pg (vs' 5)) [vS x1.Name, vI x1.At]); rw [hv 5 (za6 rfl)]; exact ⟨h.1, h.2.up l (zdP hd (c := 4) rfl)⟩) (zg5.cons (fun vs vs' W W' _ hv l hd h => by (show Ow W' 5 [] [(vs' 6)] k); rw [hv 6 (za6 rfl)]; exact h.upv l (zdP hd (c := 5) rfl)) (zg5.cons (fun vs vs' W W' _ hv l hd h => by (show (vs' 7) = (vs' 6)); rw [hv 6 (za6 rfl), hv 7 (za6 rfl)]; exact h) zg5.nil)))))))), ?_⟩
   ·intro vs W lW hN
    obtain ⟨b9, aw⟩ : ∃ X, X = W := ⟨W, rfl⟩
    subst aw
    refine Tr.mono (T.lit0 (α := Head) 3 []) ?_
    rintro ax _ ⟨aa, rfl, ay, az⟩
    exact ⟨aa, rfl, ay, (show Ow aa 3 [] [ax] ([] : List Head) from az)⟩
   ·intro vs W lW hN
    obtain ⟨a0, a1⟩ : ∃ X, X = W := ⟨W, rfl⟩
    subst a1
    refine Tr.mono (Run.tr (R.mv (v := d) rfl)) ?_
    rintro _ _ ⟨hu, rfl⟩
    obtain rfl := hu.symm
    exact ⟨a0, rfl, Le.refl _ _, (show (d : Value) = d from rfl)⟩
   ·intro vs W lW hN
    obtain ⟨a3, a4⟩ : ∃ X, X = W := ⟨W, rfl⟩
    subst a4
    have a5 := Z.t lW rfl
    obtain ⟨a6, a7⟩ : ∃ v, vs 0 = v := ⟨_, rfl⟩
    obtain ⟨vs, rfl⟩ := za7 a7
    have a9 : Ow a3 3 [] [a6] ([] : List Head) := (hN 0 (za6 rfl))
    have G : vs 1 = d := (hN 1 (za6 rfl))
    obtain ⟨vs, rfl⟩ := za7 G
    refine Tr.mono (T.appP (α := Head) a9 (i.ul a5) rfl rfl au) ?_
    rintro ba _ ⟨ac, rfl, bb, bc⟩
    exact ⟨ac, rfl, bb, (show Ow ac 3 [] [ba] B from bc)⟩
   ·intro vs W lW hN
    obtain ⟨be, bg⟩ : ∃ X, X = W := ⟨W, rfl⟩
    subst bg
    refine Tr.mono (Run.tr (R.mv (v := vI b) rfl)) ?_
    rintro _ _ ⟨hu, rfl⟩
    obtain rfl := hu.symm
    exact ⟨be, rfl, Le.refl _ _, (show (vI b : Value) = vI b from rfl)⟩
   ·intro vs W lW hN
    obtain ⟨bh, bi⟩ : ∃ X, X = W := ⟨W, rfl⟩
    subst bi
    refine Tr.mono (Run.tr (R.lda (cs := [vS x1.Name, vI x1.At]) ((((S.up z).up F).up Y).up lW rfl).cells rfl rfl)) ?_
    rintro _ _ ⟨hu, rfl⟩
    obtain rfl := hu.symm
    exact ⟨bh, rfl, Le.refl _ _, (show (.agg [vS x1.Name, vI x1.At].toArray : Value) = .agg [vS x1.Name, vI x1.At].toArray from rfl)⟩
   ·intro vs W lW hN
    obtain ⟨cb, bj⟩ : ∃ X, X = W := ⟨W, rfl⟩
    subst bj
    have H : vs 4 = .agg [vS x1.Name, vI x1.At].toArray := (hN 4 (za6 rfl))
    obtain ⟨vs, rfl⟩ := za7 H
    refine Tr.mono (T.bs 4 [.agg [vS x1.Name, vI x1.At].toArray] (cs := [vS x1.Name, vI x1.At]) rfl rfl (bsA rfl)) ?_
    rintro _ _ ⟨I, ae, rfl, rfl, bk, bl⟩
    exact ⟨ae, rfl, bk, (show (.slice (some (bx I)) 1 1 : Value) = .slice (some (bx I)) 1 1 ∧ Bx ae 4 I [vS x1.Name, vI x1.At] from ⟨rfl, bl⟩)⟩
   ·intro vs W lW hN
    obtain ⟨af, bm⟩ : ∃ X, X = W := ⟨W, rfl⟩
    subst bm
    obtain ⟨bn, bp⟩ : ∃ v, vs 2 = v := ⟨_, rfl⟩
    obtain ⟨vs, rfl⟩ := za7 bp
    have bq : Ow af 3 [] [bn] B := (hN 2 (za6 rfl))
    have J : vs 3 = vI b := (hN 3 (za6 rfl))
    obtain ⟨vs, rfl⟩ := za7 J
    obtain ⟨f, L⟩ : ∃ f, vs 5 = .slice (some (bx f)) 1 1 := ⟨_, ((hN 5 (za6 rfl))).1⟩
    obtain ⟨vs, rfl⟩ := za7 L
    have br : Bx af 4 f [vS x1.Name, vI x1.At] := (hN 5 (za6 rfl)).2
    refine Tr.mono (T.call rfl (p170 (k0 := 5) (c0 := 3) bq br (Head.rd (K := [0]) x1.Name x1.At ) rfl rfl av)) ?_
    rintro bu _ ⟨ah, rfl, bv, ⟨_, rfl, bw⟩⟩
    exact ⟨ah, rfl, bv, (show Ow ah 5 [] [bu] k from bw)⟩
   ·intro vs W lW hN
    obtain ⟨ai, bz⟩ : ∃ X, X = W := ⟨W, rfl⟩
    subst bz
    obtain ⟨e, M⟩ : ∃ v, vs 6 = v := ⟨_, rfl⟩
    obtain ⟨vs, rfl⟩ := za7 M
    have cc : Ow ai 5 [] [e] k := (hN 6 (za6 rfl))
    refine Tr.mono (Run.tr (R.as (v := e) rfl)) ?_
    rintro _ _ ⟨hu, rfl⟩
    obtain rfl := hu.symm
    exact ⟨ai, rfl, Le.refl _ _, (show (e : Value) = e from rfl)⟩
   ·intro vs W lW hN
    obtain ⟨aj, b0⟩ : ∃ X, X = W := ⟨W, rfl⟩
    subst b0
    have b2 := Z.t lW rfl
    obtain ⟨cd, hl83⟩ : ∃ x, x = lW := ⟨lW, rfl⟩
    have G : vs 1 = d := (hN 1 (za6 rfl))
    obtain ⟨vs, rfl⟩ := za7 G
    have J : vs 3 = vI b := (hN 3 (za6 rfl))
    obtain ⟨vs, rfl⟩ := za7 J
    have H : vs 4 = .agg [vS x1.Name, vI x1.At].toArray := (hN 4 (za6 rfl))
    obtain ⟨vs, rfl⟩ := za7 H
    obtain ⟨f, L⟩ : ∃ f, vs 5 = .slice (some (bx f)) 1 1 := ⟨_, ((hN 5 (za6 rfl))).1⟩
    obtain ⟨vs, rfl⟩ := za7 L
    have ce : Bx aj 4 f [vS x1.Name, vI x1.At] := (hN 5 (za6 rfl)).2
    obtain ⟨e, M⟩ : ∃ v, vs 6 = v := ⟨_, rfl⟩
    obtain ⟨vs, rfl⟩ := za7 M
    have b3 : Ow aj 5 [] [e] k := (hN 6 (za6 rfl))
    have b4 : vs 7 = e := (hN 7 (za6 rfl))
    obtain ⟨vs, rfl⟩ := za7 b4
    cases hm
    exact Cw.ret (zlh rfl (Res.mk b2 ⟨e, rfl, b3.s.sub rfl rfl⟩))
 ·refine Cw.draw [] [(0, 0), (1, 0), (2, 0), (3, 0), (4, 0), (5, 0), (6, 0), (7, 0), (8, 1), (9, 0), (10, 1), (11, 0), (12, 0)] mixed (by kernel_rfl) fun ak C => ?_
  have N := V.n C
  refine Di rfl (Mw.p rfl rfl (fun _ => R.gt rfl rfl) (Db rfl (bs hm (fun a hm => ?_) fun a hm => ?_)))
  ·refine Wp a rfl (fun _ => R.mv (v := d) rfl) (Wp a rfl (fun _ => R.mv (v := vI b) rfl) (Wp a rfl (fun _ => R.sub rfl rfl) ?_))
   obtain ⟨D, O, hm⟩ := ob hm
   exact Wp a rfl (fun _ => R.ix (α := Head) (i.ul N) O rfl rfl rfl) (Wp a rfl (fun _ => R.fa rfl) (Wq a rfl (fun _ c => R.ld rfl rfl (zaE (Head.at0 ((i.ul N).at_ O)).1 rfl (Head.at0 ((i.ul N).at_ O)).str c)) (Wp a rfl (fun _ => R.fa rfl) (Wq a rfl (fun _ c => R.ld (v := vS x1.Name) rfl rfl (((S.up z).up C).clc rfl rfl c)) (Wp a rfl (fun _ => R.sgt rfl rfl) (Mw.p rfl rfl (fun _ => R.pk a rfl (v := vB (!(Op.bytesLess D.Name x1.Name || D.Name == x1.Name))) rfl) (Mw.nil ((ag) ⟨(!(Op.bytesLess D.Name x1.Name || D.Name == x1.Name)), ak, rfl, C, rfl, hm⟩))))))))
  ·exact dps 9 a rfl (Mw.p rfl rfl (fun _ => R.pk a rfl (v := vB false) rfl) (Mw.nil ((ag) ⟨false, ak, rfl, C, rfl, hm⟩)))
theorem p126 {x0 b x1 k0 r} (d : Rd W K [b] x0) (f : Rd W K [vS x1.Name, vI x1.At] x1) (hm : Vm.zeA x0 x1 = some r) : Q1 126 [b, .agg [vS x1.Name, vI x1.At].toArray] W [] fun W' v => ∃ a, v = a ∧ Ow W' k0 [] [a] r :=
 (c126 (d.view _) (f.view _) hm).ad (fk k0) fun _ _ ⟨a, e, h⟩ => ⟨a, e, h.back (zkb _)⟩
theorem c68 {x0 k x x1 x2 r} (aj : Ow W0 2 [] [k] x0.Commits) (ak : Ow W0 3 [] [x] x0.Heads) (hm : Vm.zbp x0 x1 x2 = some r) : Q0 68 [.agg [k, x].toArray, vS x1, vI x2] W0 fun Wf v => ∃ U V, v = .agg [U, V].toArray ∧ OwS Wf [31] [] [U] r.Commits ∧ OwS Wf [32] [] [V] r.Heads := by
 unfold Vm.zbp at hm
 refine zaI.of Tryz.func68 rfl rfl rfl rfl (sr (bo 4 rfl fun g1 W1 F W => ?_))
 have a2 := F.o
 refine al 5 [.slice none 0 0, .slice none 0 0] fun g5 X d b5 => ?_
 have a6 := a2.n d
 have Y := (ak.up F).up d
 refine nl (ssr (fl (W.up d) rfl (Lw.ln x0.Heads Y.rd rfl (mi rfl (nl (Cw.block ?_))))))
 obtain ⟨aq, ar, hm⟩ := zc1 hm
 refine Cw.loop 11 29 [7, 11] (fun m l w => ∃ e y z A Z B C a, CW.w a = w ∧ Le [] X a ∧ l = [Z, vI e] ∧ Ow a 6 [] [B] y ∧ Ow a 7 [] [C] z ∧ Bx a 5 g5 [B, C] ∧ Ow a 3 [] [x] A ∧ Vm.zaV x0 x1 x2 aq m e y z A = some r) _ ⟨0, ([] : List Commit), ([] : List Head), x0.Heads, undef, .slice none 0 0, .slice none 0 0, X, rfl, Le.refl _ _, rfl, owN 6 [], owN 7 [], b5, Y, hm⟩ ?_
 rintro (_ | bn) _ _ σ ⟨e, y, z, A, Z, B, C, a, rfl, D, rfl, au, av, G, b, hm⟩
 ·cases hm
 unfold Vm.zaV at hm
 have aa := a6.n D
 have H := ((aj.up F).up d).up D
 have f := (W.up d).up D
 refine sr (Lw.lt rfl (nl (Cw.seq (cn hm (fun hm => ?_) fun hm => ?_))))
 ·refine sk (Cw.seq (Cw.block (sr (mi rfl (Ni rfl (sr (fl f rfl (mi rfl ?_))))))))
  obtain ⟨bp, ac, hm⟩ := ob hm
  refine Lw.r rfl (R.ix (α := Head) b.rd ac rfl rfl rfl) (Lw.fa rfl (Lw.r rfl (R.ld rfl rfl (Head.at0 (b.rd.at_ ac)).str) (ms rfl (Lw.seq rfl (nl (cn hm (fun hm => ?_) fun hm => ?_))))))
  ·refine sr (fl f rfl (mi rfl (mi rfl ?_)))
   obtain ⟨bq, ae, hm⟩ := ob hm
   refine Lw.r rfl (R.ix (α := Head) b.rd ae rfl rfl rfl) (Lw.fa rfl ?_)
   obtain ⟨br, aw, hm⟩ := ob hm
   refine Lw.u (T.stH (α := Head) (β := Int) (J := []) (Ow.hole (α := Head) (β := Int) (jf := 1) b ae) (OwS.atm (K := []) (rdI _)) aw rfl rfl rfl rfl) ?_
   rintro _ _ ⟨bu, rfl, h, af⟩
   have ax := aa.t h
   refine nl (sr (la (f.up h) (sta (G.up h) (zab (H.up h).oc (zab af.oc za3)) fun bv I ay => ?_)))
   have az := ax.t I
   refine nl ?_
   obtain ⟨bw, a0, L, a1⟩ := ((H.up h).up I).dyeO 31
   have a3 := az.t L
   obtain ⟨bz, a4, N, a5⟩ := ((af.up I).up L).dyeO 32
   have a7 := a3.t N
   cases hm
   rw [← a4.trans (a0)]
   exact Cw.ret (znv rfl ((ay.up L).up N) (Res.mk a7 ⟨k, x, rfl, (a1.up N).s, a5.s⟩))
  ·exact sk (rg (Lw.add rfl (mi rfl (nl ((agm) ⟨w64 (e + 1), y, z, A, vI e, B, C, a, rfl, D, rfl, au, av, G, b, hm⟩)))))
 ·refine Cw.exit ?_
  rw [ar] at hm
  refine sr (fl f rfl (ms rfl (mi rfl (Lw.r rfl (R.bd (zs := [vS ([] : Str), vI 0]) (cs := [vS x1, vI x2]) [(0, vS x1), (1, vI x2)] rfl rfl rfl (zbo rfl rfl (zbo rfl rfl zfH))) (cr hm (fun _ => p126 (K := [0, 3]) (k0 := 8) (x1 := (Vm.Head.mk x1 x2)) (b.rd.sub (M := [0, 3]) rfl) ((Head.rd (K := [0]) x1 x2 ).sub (M := [0, 3]) rfl)) ?_)))))
  rintro b0 ah b2 hm E ⟨_, rfl, O⟩
  have a8 := aa.n E
  refine Lw.fa rfl (Lw.u (T.st (j := 1) (v := ah) (f.up E) rfl rfl O.oc rfl rfl) ?_)
  rintro _ _ ⟨b3, rfl, i, a9⟩
  have ba := a8.t i
  have ai := (H.up E).up i
  refine nl (sr (la a9 (sta ((G.up E).up i) (zab ai.oc (zab (O.up i).oc za3)) fun b4 P bb => ?_)))
  have bc := ba.t P
  refine nl ?_
  obtain ⟨b6, be, Q, bg⟩ := (ai.up P).dyeO 31
  have bh := bc.t Q
  obtain ⟨b7, bi, S, bj⟩ := (((O.up i).up P).up Q).dyeO 32
  have bk := bh.t S
  cases hm
  rw [← bi.trans (be)]
  exact Cw.ret (znv rfl ((bb.up Q).up S) (Res.mk bk ⟨k, ah, rfl, (bg.up S).s, bj.s⟩))
theorem p68 {x0 d f x1 x2 k0 k1 c0 c1 r} (h : Ow W c0 [] [d] x0.Commits) (i : Ow W c1 [] [f] x0.Heads) (hJ : okJ K [c0, c1] = true) (hm : Vm.zbp x0 x1 x2 = some r) : Q1 68 [.agg [d, f].toArray, vS x1, vI x2] W [c0, c1] fun W' v => ∃ a b, v = .agg [a, b].toArray ∧ Ow W' k0 [] [a] r.Commits ∧ Ow W' k1 [] [b] r.Heads :=
 zaI.adJ (J := [c0, c1]) (fun c => bif Nat.beq c 0 then 0 else bif Nat.beq c 2 then c0 else bif Nat.beq c 3 then c1 else bif Nat.beq c 31 then k0 else bif Nat.beq c 32 then k1 else 0) (c68 (h.viewJ 0 hJ) (i.viewJ 1 hJ) hm) fun _ _ ⟨a, b, e, k, x⟩ => ⟨a, b, e, k.one1.backN rfl, x.one1.backN rfl⟩
theorem c157 {x0 D E x1 x2 x3 y x4 b r} (U : Ow W0 2 [] [D] x0.Commits) (V : Ow W0 3 [] [E] x0.Heads) (W : Rd W0 [0] [y] x3) (X : Ow W0 4 [] [b] x4) (hm : Vm.zbs x0 x1 x2 x3 x4 = some r) : Q0 157 [.agg [D, E].toArray, vS x1, vS x2, y, b] W0 fun Wf v => ∃ F G, v = .agg [F, G].toArray ∧ OwS Wf [31] [] [F] r.Commits ∧ OwS Wf [32] [] [G] r.Heads := by
 unfold Vm.zbs at hm
 refine zaI.of Tryz.func157 rfl rfl rfl rfl (sr (bo 5 rfl fun g1 W1 i Y => ?_))
 have Z := i.o
 refine al 6 [.slice none 0 0, .slice none 0 0] fun g6 W6 f b6 => ?_
 have a7 := Z.n f
 refine nl (Cw.seq (Cw.draw [] [(0, 0), (1, 1), (2, 0), (3, 0), (4, 0), (5, 2), (6, 0), (7, 2), (8, 3), (9, 0), (10, 3)] mixed (by kernel_rfl) fun a9 e => ?_))
 have H := a7.n e
 have I := (Y.up f).up e
 refine Dfl I rfl rfl rfl (Dv b rfl (Ds rfl (Dv y rfl ?_)))
 obtain ⟨ae, af, hm⟩ := ob hm
 refine Mw.t rfl rfl (T.call rfl (p88 (k0 := 7) (W.ul H) af)) ?_
 rintro k _ ⟨ba, rfl, d, ⟨_, rfl, L⟩⟩
 have ah := H.n d
 have M := (((X.up i).up f).up e).up d
 refine m0 d fun ai => Mw.p rfl rfl (fun _ => R.bd (zs := [.slice none 0 0, vS ([] : Str), .slice none 0 0]) (cs := [b, vS x2, k]) [(0, b), (1, vS x2), (2, k)] rfl rfl rfl (zbo M.oc rfl (zbo rfl rfl (zbo L.oc rfl zfH)))) (Mw.t rfl rfl (T.bs 8 [.agg [b, vS x2, k].toArray] (cs := [b, vS x2, k]) rfl rfl (bsA rfl)) ?_)
 rintro _ _ ⟨bb, bc, rfl, rfl, a, aj⟩
 have ak := ah.n a
 refine mc ai a fun be => ?_
 obtain ⟨N, am, hm⟩ := ob hm
 refine Mw.l rfl rfl (T.app1 (α := Commit) (J := [4, 7]) (K' := []) (((((U.up i).up f).up e).up d).up a) aj (Commit.own x4 x2 ae (M.up a).s (L.up a).s) rfl rfl am) ?_
 rintro an _ ⟨bg, rfl, x, z⟩
 have ao := ak.t x
 refine Df rfl (Mw.lu rfl (T.st (j := 0) (v := an) (((I.up d).up a).up x) rfl rfl z.oc rfl rfl) ?_)
 rintro _ _ ⟨bh, rfl, h, O⟩
 have ap := ao.t h
 refine Mw.nil (sr (la O (ms rfl (fl O rfl (Lw.ln N (z.up h).rd rfl (Lw.sub rfl (cr hm (fun _ => p68 (K := [0]) (k0 := 9) (k1 := 10) (c0 := 2) (c1 := 3) (x0 := (Vm.Repo.mk N x0.Heads)) (z.up h) (((((((V.up i).up f).up e).up d).up a).up x).up h) rfl) ?_)))))))
 rintro bi _ bj hm P ⟨aq, ar, rfl, Q, S⟩
 have au := ap.t P
 refine sta ((((((b6.up e).up d).up a).up x).up h).up P) (zab Q.oc (zab S.oc za3)) fun bk A av => ?_
 have aw := au.t A
 refine nl ?_
 obtain ⟨bl, ax, B, ay⟩ := (Q.up A).dyeO 31
 have az := aw.t B
 obtain ⟨bm, a0, C, a1⟩ := ((S.up A).up B).dyeO 32
 have a3 := az.t C
 cases hm
 rw [← a0.trans (ax)]
 exact Cw.ret (znv rfl ((av.up B).up C) (Res.mk a3 ⟨aq, ar, rfl, (ay.up C).s, a1.s⟩))
theorem p157 {x0 d f x1 x2 x3 h x4 i k0 k1 c0 c1 c2 r} (k : Ow W c0 [] [d] x0.Commits) (x : Ow W c1 [] [f] x0.Heads) (y : Rd W K [h] x3) (z : Ow W c2 [] [i] x4) (hJ : okJ K [c0, c1, c2] = true) (hm : Vm.zbs x0 x1 x2 x3 x4 = some r) : Q1 157 [.agg [d, f].toArray, vS x1, vS x2, h, i] W [c0, c1, c2] fun W' v => ∃ a b, v = .agg [a, b].toArray ∧ Ow W' k0 [] [a] r.Commits ∧ Ow W' k1 [] [b] r.Heads :=
 zaI.adJ (J := [c0, c1, c2]) (fun c => bif Nat.beq c 0 then 0 else bif Nat.beq c 2 then c0 else bif Nat.beq c 3 then c1 else bif Nat.beq c 4 then c2 else bif Nat.beq c 31 then k0 else bif Nat.beq c 32 then k1 else 0) (c157 (k.viewJ 0 hJ) (x.viewJ 1 hJ) (y.view _) (z.viewJ 2 hJ) hm) fun _ _ ⟨a, b, e, A, B⟩ => ⟨a, b, e, A.one1.backN rfl, B.one1.backN rfl⟩
theorem c156 {x0 D E x1 e f r} (Q : Rd W0 [0] [D, E] x0) (S : Ow W0 2 [] [e] x1.Commits) (T : Ow W0 3 [] [f] x1.Heads) (U : Gl 0 W0 [0]) (hm : Vm.zbK x0 x1 = some r) : Q0 156 [.agg [D, E].toArray, .agg [e, f].toArray] W0 fun Wf v => ∃ F G, v = .tuple [.agg [F, G].toArray, vB r.2].toArray ∧ OwS Wf [31] [] [F] r.1.Commits ∧ OwS Wf [32] [] [G] r.1.Heads := by
 unfold Vm.zbK at hm
 obtain ⟨az, a0, H, V, W⟩ := Repo.split Q
 simp only [List.cons.injEq, and_true, true_and] at H
 obtain ⟨rfl, rfl⟩ := H
 refine zaI.of Tryz.func156 rfl rfl rfl rfl (sr (bo 4 rfl fun g1 W1 h X => ?_))
 have Y := h.o
 refine bo 5 rfl fun g5 W5 b I => ?_
 have Z := Y.n b
 refine al 6 [.slice none 0 0, .slice none 0 0] fun a7 a8 l10 J => ?_
 have L := Z.n l10
 have i := ((S.up h).up b).up l10
 have k := ((T.up h).up b).up l10
 refine Nb rfl (ssr (la (I.up l10) (ca hm (fun _ => p22 (K := [0, 2, 3]) (x0 := (Vm.Repo.mk x1.Commits x1.Heads)) ((Repo.rd (K := [2, 3]) x1.Commits x1.Heads (i.rd.sub (M := [2, 3]) rfl) (k.rd.sub (M := [2, 3]) rfl)).sub (M := [0, 2, 3]) rfl) ((U.ul L).sub (M := [0, 2, 3]) rfl)) fun a9 ba hm a => ?_)))
 have d := L.n a
 refine Lw.r rfl (R.not rfl) (nl (cn hm (fun hm => ?_) fun hm => ?_))
 ·refine sr (la (((X.up b).up l10).up a) (cr hm (fun _ => p67 (k0 := 7) (k1 := 8) (Repo.rd (K := [0]) x0.Commits x0.Heads (V.ul d) (W.ul d))) ?_))
  rintro bb _ bc hm N ⟨aa, ac, rfl, O, P⟩
  have ae := d.n N
  refine sta ((J.up a).up N) (zab O.oc (zab P.oc za3)) fun be x af => ?_
  have ah := ae.t x
  refine Nb rfl ?_
  obtain ⟨bg, ai, y, aj⟩ := (O.up x).dyeO 31
  have ak := ah.t y
  obtain ⟨bh, am, z, an⟩ := ((P.up x).up y).dyeO 32
  have ao := ak.t z
  cases hm
  rw [← am.trans (ai)]
  exact Cw.ret (zhr rfl ((af.up y).up z) rfl (Res.mk ao ⟨aa, ac, rfl, (aj.up z).s, an.s⟩))
 ·refine sk (sr (la ((I.up l10).up a) (sta (J.up a) (zab (i.up a).oc (zab (k.up a).oc za3)) fun bi A ap => ?_)))
  have aq := d.t A
  refine Nb rfl ?_
  obtain ⟨bj, ar, B, au⟩ := ((i.up a).up A).dyeO 31
  have av := aq.t B
  obtain ⟨bk, aw, C, ax⟩ := (((k.up a).up A).up B).dyeO 32
  have ay := av.t C
  cases hm
  rw [← aw.trans (ar)]
  exact Cw.ret (zhr rfl ((ap.up B).up C) rfl (Res.mk ay ⟨e, f, rfl, (au.up C).s, ax.s⟩))
theorem p156 {x0 d f x1 h i k0 k1 c0 c1 r} (k : Rd W K [d, f] x0) (x : Ow W c0 [] [h] x1.Commits) (y : Ow W c1 [] [i] x1.Heads) (z : Gl 0 W K) (hJ : okJ K [c0, c1] = true) (hm : Vm.zbK x0 x1 = some r) : Q1 156 [.agg [d, f].toArray, .agg [h, i].toArray] W [c0, c1] fun W' v => ∃ a b, v = .tuple [.agg [a, b].toArray, vB r.2].toArray ∧ Ow W' k0 [] [a] r.1.Commits ∧ Ow W' k1 [] [b] r.1.Heads :=
 zaI.adJ (J := [c0, c1]) (fun c => bif Nat.beq c 0 then 0 else bif Nat.beq c 2 then c0 else bif Nat.beq c 3 then c1 else bif Nat.beq c 31 then k0 else bif Nat.beq c 32 then k1 else 0) (c156 (k.view _) (x.viewJ 0 hJ) (y.viewJ 1 hJ) (z.view _) hm) fun _ _ ⟨a, b, e, A, B⟩ => ⟨a, b, e, A.one1.backN rfl, B.one1.backN rfl⟩
end Go.Sx
