/- Walks: each function answers as its model, printed by a program of ours. Conditions: the arguments read as they are given. -/
import Derived.Test.YtkfeiopifiejgaaGreatDoorXTs
import Derived.Test.YtkfeiopifiejgaaGreatDoorXM8
import Derived.Test.YtkfeiopifiejgaaGreatDoorXW0
import Derived.Test.YtkfeiopifiejgaaGreatDoorXW6
import Derived.Test.YtkfeiopifiejgaaGreatDoorXW8
namespace Go.Sx
open Go Go.Proofs Go.Vm Rp
set_option linter.unusedVariables false
set_option linter.unusedSimpArgs false

variable {W W0 : CW} {K : List Nat}
theorem c53 {x0 v0_ r} (h0 : Rd W0 [0] [v0_] x0) (hm : Vm.spec_DrawAncIs x0 = some r) : Q0 53 [v0_] W0 fun Wf v => ∃ u0_0 u0_1, v = .tuple [.agg [u0_0, u0_1].toArray, vI r.2.1, vI r.2.2].toArray ∧ OwS Wf [31] [] [u0_0] r.1.Commits ∧ OwS Wf [32] [] [u0_1] r.1.Heads := by
 unfold Vm.spec_DrawAncIs at hm
 refine CallR.of Tryz.func53 rfl rfl rfl rfl (sr (al 2 [.slice none 0 0, .slice none 0 0] fun g1 W1 l1 b1 => ?_))
 have a2 := l1.o
 refine Gi rfl (Ni rfl (sr (mv v0_ rfl (cr hm (fun _ => p41 (k0 := 3) (h0.ul a2)) ?_))))
 rintro z4 _ W6 hm l6 ⟨g0_6, v0_0_6, rfl, f6_0, f6_1⟩
 have s7 := f6_1.sub (M := [0]) rfl
 have a8 := a2.n l6
 refine Np rfl (sr (mp rfl (cr hm (fun _ => p42 (k0 := 4) (k1 := 5) (c0 := 3) (x0 := z4) f6_0 s7 rfl) ?_)))
 rintro z10 _ W12 hm l12 ⟨v0_0_12, v0_1_12, rfl, f12_0, f12_1, f12_2⟩
 have a13 := l12.s
 refine al 6 [.slice none 0 0, .slice none 0 0] fun g15 W15 l15 b15 => ?_
 have a16 := l15.o
 refine sta b15 (oc_cons (f12_0.up l15).oc (oc_cons (f12_1.up l15).oc oc_nil)) fun W21 l21 b21 => ?_
 have a22 := l21.s
 have o23 := (f12_0.up l15).up l21
 have o24 := (f12_1.up l15).up l21
 refine nl (sr (mp rfl (la b21 (cr hm (fun _ => p43 (K := [0, 4, 5]) (c0 := 3) (x0 := (Vm.l30Rd.mk z4.b z10.2)) (x1 := (Vm.Repo.mk z10.1.Commits z10.1.Heads)) ((f12_2.up l15).up l21) ((s7.ul ((a13.trans a16).trans a22)).sub (M := [0, 4, 5]) rfl) ((Repo.rd (K := [4, 5]) z10.1.Commits z10.1.Heads (o23.rd.sub (M := [4, 5]) rfl) (o24.rd.sub (M := [4, 5]) rfl)).sub (M := [0, 4, 5]) rfl) rfl) ?_))))
 rintro z28 _ W30 hm l30 ⟨rfl, f30_0⟩
 have a31 := l30.s
 refine Ni rfl (Cw.seq (Cw.draw [2, 3] [(0, 1), (1, 0), (2, 0), (3, 1), (4, 2), (5, 2), (6, 0), (7, 0)] mixed (by kernel_rfl) fun W36 l36 => ?_))
 have a37 := l36.o
 have o38 := (o23.up l30).up l36
 have o39 := (o24.up l30).up l36
 have b42 := (b21.up l30).up l36
 refine Mw.q rfl rfl (fun _ c => R.lda (cs := [v0_0_12, v0_1_12]) (b42.clcs rfl c) rfl rfl) (Di rfl (Dp rfl (Mw.q rfl rfl (fun _ c => R.lda (cs := [v0_0_12, v0_1_12]) (b42.clcs rfl c) rfl rfl) ?_)))
 obtain ⟨z44, e45, hm⟩ := ob hm
 refine Mw.t rfl rfl (T.call rfl (p43 (K := [0, 4, 5])  (c0 := 3) (x0 := (Vm.l30Rd.mk z4.b z28.2)) (x1 := (Vm.Repo.mk z10.1.Commits z10.1.Heads)) (f30_0.up l36) ((s7.ul ((((a13.trans a16).trans a22).trans a31).trans a37)).sub (M := [0, 4, 5]) rfl) ((Repo.rd (K := [4, 5]) z10.1.Commits z10.1.Heads (o38.rd.sub (M := [4, 5]) rfl) (o39.rd.sub (M := [4, 5]) rfl)).sub (M := [0, 4, 5]) rfl) rfl e45)) ?_
 rintro _ _ ⟨W46, rfl, l46, ⟨rfl, f46_0⟩⟩
 have a47 := (((((a8.trans a13).trans a16).trans a22).trans a31).trans a37).t l46
 refine m0 l46 fun d46 => Mw.tu rfl (T.sta (vs := [v0_0_12, v0_1_12]) (((((((b1.up l6).up l12).up l15).up l21).up l30).up l36).up l46) rfl rfl (oc_cons (o38.up l46).oc (oc_cons (o39.up l46).oc oc_nil)) rfl rfl) ?_
 rintro _ _ ⟨W52, rfl, l52, b52⟩
 have a53 := a47.t l52
 refine mc d46 l52 fun d52 => Hi rfl (Hi rfl (Mw.nil ?_))
 obtain ⟨W58, ew58, l58, o58⟩ := ((o38.up l46).up l52).dyeO 31
 have a59 := a53.t l58
 obtain ⟨W64, ew64, l64, o64⟩ := (((o39.up l46).up l52).up l58).dyeO 32
 have a65 := a59.t l64
 cases hm
 rw [← ew64.trans (ew58)]
 exact Cw.ret (retG (ResOk.c rfl ((b52.up l58).up l64) (ResOk.t rfl (ResOk.t rfl ResOk.n))) (Res.mk a65 ⟨v0_0_12, v0_1_12, rfl, (o58.up l64).s, o64.s⟩))

theorem p53 {x0 v0_ k0 k1 r} (h0 : Rd W K [v0_] x0) (hm : Vm.spec_DrawAncIs x0 = some r) : Q1 53 [v0_] W [] fun W' v => ∃ u0_0 u0_1, v = .tuple [.agg [u0_0, u0_1].toArray, vI r.2.1, vI r.2.2].toArray ∧ Ow W' k0 [] [u0_0] r.1.Commits ∧ Ow W' k1 [] [u0_1] r.1.Heads :=
 CallR.adJ (J := []) (fun c => bif Nat.beq c 0 then 0 else bif Nat.beq c 31 then k0 else bif Nat.beq c 32 then k1 else 0) (c53 (h0.view _) hm) fun _ _ ⟨u0_0, u0_1, e, f0, f1⟩ => ⟨u0_0, u0_1, e, f0.one1.backN rfl, f1.one1.backN rfl⟩

end Go.Sx
