/- Walks: each function answers as its model, printed by a program of ours. Conditions: the arguments read as they are given. -/
import Derived.Test.YtjdljoplpcakpaaXTs
import Derived.Test.YtjdljoplpcakpaaXMd
import Derived.Test.YtjdljoplpcakpaaXW0
import Derived.Test.YtjdljoplpcakpaaXW1
namespace Go.Sx
open Go Go.Proofs Go.Vm Rp
set_option linter.unusedVariables false
set_option linter.unusedSimpArgs false

theorem c17 {V : CW} {x0 : List Byte} {v0_ : Value} {r : (List Vm.Memo) × Vm.Memo} (h0 : Rd V [0] [v0_] x0) (hm : Vm.spec_DrawMemoPut x0 = some r) : CallR Try.prog 17 [v0_].toArray V.w (Res V LL fun Wf v => ∃ (u0 : Value) (u1_0 : Value) (u1_1 : Value) (u1_2 : Value) (u1_3 : Value), v = .tuple [u0, .agg [u1_0, u1_1, u1_2, u1_3].toArray].toArray ∧ OwS Wf [31] [] [u0] r.1 ∧ OwS Wf [32] [] [u1_0] r.2.Old ∧ OwS Wf [33] [] [u1_1] r.2.One ∧ OwS Wf [34] [] [u1_2] r.2.Two ∧ OwS Wf [35] [] [u1_3] r.2.Done) := by
  unfold Vm.spec_DrawMemoPut at hm
  obtain ⟨W0, hW0⟩ : ∃ W, W = V := ⟨V, rfl⟩
  subst hW0
  refine CallR.of Try.func17 rfl rfl rfl rfl ?_
  refine Cw.seq ?_
  refine Cw.region ?_
  refine Lw.r rfl (R.as (v := .slice none 0 0) rfl) ?_
  refine Lw.t rfl (T.alloc 2 (cs := [.slice none 0 0, .slice none 0 0, .slice none 0 0, .slice none 0 0]) rfl) ?_
  rintro _ _ ⟨g1, W1, rfl, rfl, l1, b1⟩
  have a2 : Le LL _ _ := l1.nil
  refine Lw.nil ?_
  refine Cw.seq ?_
  refine Cw.region ?_
  refine Lw.r rfl (R.mv (v := v0_) rfl) ?_
  have s3 := h0.ul a2
  obtain ⟨z4, e5, hm⟩ := ob hm
  refine Lw.t rfl (T.call rfl (p58 (K := [0]) (k0 := 3) s3 e5)) ?_
  rintro _ _ ⟨W6, rfl, l6, ⟨g0_6, v0_0_6, rfl, f6_0, f6_1⟩⟩
  have s7 := f6_1.sub (M := [0]) rfl
  have a8 : Le LL _ _ := l6.nil
  have b9 := b1.up l6 rfl
  refine Lw.r rfl (R.as (v := ptr (bx g0_6)) rfl) ?_
  refine Lw.nil ?_
  refine Cw.seq ?_
  refine Cw.region ?_
  refine Lw.r rfl (R.mv (v := ptr (bx g0_6)) rfl) ?_
  obtain ⟨z10, e11, hm⟩ := ob hm
  refine Lw.t rfl (T.call rfl (p59 (K := [0]) (k0 := 4) (c0 := 3) (x0 := z4) f6_0 s7 rfl e11)) ?_
  rintro v0_12 _ ⟨W12, rfl, l12, ⟨_, rfl, f12_0, f12_1⟩⟩
  have a13 : Le LL _ _ := l12.sub rfl
  have b14 := b9.up l12 rfl
  refine Lw.r rfl (R.as (v := v0_12) rfl) ?_
  refine Lw.nil ?_
  refine Cw.seq ?_
  refine Cw.region ?_
  refine Lw.r rfl (R.mv (v := v0_12) rfl) (Lw.r rfl (R.mv (v := ptr (bx g0_6)) rfl) ?_)
  have s15 := s7.ul a13
  obtain ⟨z16, e17, hm⟩ := ob hm
  refine Lw.t rfl (T.call rfl (p60 (K := [0]) (k0 := 5) (k1 := 6) (k2 := 7) (k3 := 8) (c0 := 3) (x0 := (Vm.l30Rd.mk z4.b z10.2)) f12_1 s15 rfl e17)) ?_
  rintro _ _ ⟨W18, rfl, l18, ⟨v0_0_18, v0_1_18, v0_2_18, v0_3_18, rfl, f18_0, f18_1, f18_2, f18_3, f18_4⟩⟩
  have a19 : Le LL _ _ := l18.sub rfl
  have o20 := f12_0.up l18 rfl
  have b21 := b14.up l18 rfl
  refine Lw.r rfl (R.as (v := v0_12) rfl) ?_
  refine Lw.u (T.sta (vs := [v0_0_18, v0_1_18, v0_2_18, v0_3_18]) b21 rfl rfl (oc_cons f18_0.oc (oc_cons f18_1.oc (oc_cons f18_2.oc (oc_cons f18_3.oc oc_nil)))) rfl rfl) ?_
  rintro _ _ ⟨W22, rfl, l22, b22⟩
  have a23 : Le LL _ _ := l22.sub rfl
  have o24 := o20.up l22 rfl
  have o25 := f18_0.up l22 rfl
  have o26 := f18_1.up l22 rfl
  have o27 := f18_2.up l22 rfl
  have o28 := f18_3.up l22 rfl
  have b29 := f18_4.up l22 rfl
  refine Lw.nil ?_
  obtain ⟨W30, ew30, l30, o30⟩ := o24.dyeO 31
  have a31 : Le LL _ _ := l30.sub rfl
  have o32 := o25.up l30 rfl
  have o33 := o26.up l30 rfl
  have o34 := o27.up l30 rfl
  have o35 := o28.up l30 rfl
  have b36 := b22.up l30 rfl
  have b37 := b29.up l30 rfl
  obtain ⟨W38, ew38, l38, o38⟩ := o32.dyeO 32
  have a39 : Le LL _ _ := l38.sub rfl
  have o40 := o33.up l38 rfl
  have o41 := o34.up l38 rfl
  have o42 := o35.up l38 rfl
  have o43 := o30.up l38 rfl
  have b44 := b36.up l38 rfl
  have b45 := b37.up l38 rfl
  obtain ⟨W46, ew46, l46, o46⟩ := o40.dyeO 33
  have a47 : Le LL _ _ := l46.sub rfl
  have o48 := o41.up l46 rfl
  have o49 := o42.up l46 rfl
  have o50 := o43.up l46 rfl
  have o51 := o38.up l46 rfl
  have b52 := b44.up l46 rfl
  have b53 := b45.up l46 rfl
  obtain ⟨W54, ew54, l54, o54⟩ := o48.dyeO 34
  have a55 : Le LL _ _ := l54.sub rfl
  have o56 := o49.up l54 rfl
  have o57 := o50.up l54 rfl
  have o58 := o51.up l54 rfl
  have o59 := o46.up l54 rfl
  have b60 := b52.up l54 rfl
  have b61 := b53.up l54 rfl
  obtain ⟨W62, ew62, l62, o62⟩ := o56.dyeO 35
  have a63 : Le LL _ _ := l62.sub rfl
  have o64 := o57.up l62 rfl
  have o65 := o58.up l62 rfl
  have o66 := o59.up l62 rfl
  have o67 := o54.up l62 rfl
  have b68 := b60.up l62 rfl
  have b69 := b61.up l62 rfl
  cases hm
  rw [← ew62.trans (ew54.trans (ew46.trans (ew38.trans (ew30))))]
  exact Cw.ret (ret2A rfl b68 rfl (Res.mk (a2.trans (a8.trans (a13.trans (a19.trans (a23.trans (a31.trans (a39.trans (a47.trans (a55.trans a63))))))))) ⟨v0_12, v0_0_18, v0_1_18, v0_2_18, v0_3_18, rfl, o64.s, o65.s, o66.s, o67.s, o62.s⟩))

theorem p17 {W : CW} {K : List Nat} {x0 : List Byte} {v0_ : Value} {k0 : Nat} {k1 : Nat} {k2 : Nat} {k3 : Nat} {k4 : Nat} {r : (List Vm.Memo) × Vm.Memo} (h0 : Rd W K [v0_] x0) (hm : Vm.spec_DrawMemoPut x0 = some r) : CallR Try.prog 17 [v0_].toArray W.w (Res W [] fun W' v => ∃ (u0 : Value) (u1_0 : Value) (u1_1 : Value) (u1_2 : Value) (u1_3 : Value), v = .tuple [u0, .agg [u1_0, u1_1, u1_2, u1_3].toArray].toArray ∧ Ow W' k0 [] [u0] r.1 ∧ Ow W' k1 [] [u1_0] r.2.Old ∧ Ow W' k2 [] [u1_1] r.2.One ∧ Ow W' k3 [] [u1_2] r.2.Two ∧ Ow W' k4 [] [u1_3] r.2.Done) :=
  CallR.adJ (J := []) (fun c => bif Nat.beq c 0 then 0 else bif Nat.beq c 31 then k0 else bif Nat.beq c 32 then k1 else bif Nat.beq c 33 then k2 else bif Nat.beq c 34 then k3 else bif Nat.beq c 35 then k4 else 0) (c17 (V := W.view K []) (h0.view _) hm) fun _ _ ⟨u0, u1_0, u1_1, u1_2, u1_3, e, f0, f1, f2, f3, f4⟩ => ⟨u0, u1_0, u1_1, u1_2, u1_3, e, f0.one1.backN rfl, f1.one1.backN rfl, f2.one1.backN rfl, f3.one1.backN rfl, f4.one1.backN rfl⟩

theorem c91 {V : CW} {x0 : List Str} {v0_ : Value} {r : (List Str)} (h0 : Rd V [0] [v0_] x0) (hm : Vm.impl_copyText x0 = some r) : CallR Try.prog 91 [v0_].toArray V.w (Res V LL fun Wf v => ∃ (u0 : Value), v = u0 ∧ OwS Wf LL [] [u0] r) := by
  unfold Vm.impl_copyText at hm
  obtain ⟨W0, hW0⟩ : ∃ W, W = V := ⟨V, rfl⟩
  subst hW0
  refine CallR.of Try.func91 rfl rfl rfl rfl ?_
  refine Cw.seq ?_
  refine Cw.region ?_
  refine Lw.r rfl (R.as (v := .slice none 0 0) rfl) ?_
  refine Lw.nil ?_
  refine Cw.seq ?_
  refine Cw.region ?_
  refine Lw.t rfl (T.lit0 (α := Str) 2 []) ?_
  rintro v1 _ ⟨W1, rfl, l1, o1⟩
  have a2 : Le LL _ _ := l1.nil
  refine Lw.r rfl (R.mv (v := v0_) rfl) ?_
  obtain ⟨q3, e4, hm⟩ := ob hm
  have s6 := h0.ul a2
  refine Lw.t rfl (T.appP (α := Str) o1 s6 rfl rfl e4) ?_
  rintro v5 _ ⟨W5, rfl, l5, o5⟩
  have a7 : Le LL _ _ := l5.sub rfl
  refine Lw.r rfl (R.as (v := v5) rfl) ?_
  refine Lw.nil ?_
  cases hm
  exact Cw.ret (ret1 rfl (Res.mk (a2.trans a7) ⟨v5, rfl, o5.s.sub rfl rfl⟩))

theorem p91 {W : CW} {K : List Nat} {x0 : List Str} {v0_ : Value} {k0 : Nat} {r : (List Str)} (h0 : Rd W K [v0_] x0) (hm : Vm.impl_copyText x0 = some r) : CallR Try.prog 91 [v0_].toArray W.w (Res W [] fun W' v => ∃ (u0 : Value), v = u0 ∧ Ow W' k0 [] [u0] r) :=
  (c91 (V := W.view K []) (h0.view _) hm).ad (fk k0) fun _ _ ⟨u0, e, f0⟩ => ⟨u0, e, f0.back (fk_LL _)⟩

theorem c61 {V : CW} {x0 : Vm.Memo} {v0_0_ : Value} {v0_1_ : Value} {v0_2_ : Value} {v0_3_ : Value} {r : Vm.Memo} (h0 : Rd V [0] [v0_0_, v0_1_, v0_2_, v0_3_] x0) (hm : Vm.impl_Memo_own x0 = some r) : CallR Try.prog 61 [.agg [v0_0_, v0_1_, v0_2_, v0_3_].toArray].toArray V.w (Res V LL fun Wf v => ∃ (u0_0 : Value) (u0_1 : Value) (u0_2 : Value) (u0_3 : Value), v = .agg [u0_0, u0_1, u0_2, u0_3].toArray ∧ OwS Wf [31] [] [u0_0] r.Old ∧ OwS Wf [32] [] [u0_1] r.One ∧ OwS Wf [33] [] [u0_2] r.Two ∧ OwS Wf [34] [] [u0_3] r.Done) := by
  unfold Vm.impl_Memo_own at hm
  obtain ⟨w0_0, w0_1, w0_2, w0_3, he0, h0_0, h0_1, h0_2, h0_3⟩ := Memo.split h0
  simp only [List.cons.injEq, and_true, true_and] at he0
  obtain ⟨rfl, rfl, rfl, rfl⟩ := he0
  obtain ⟨W0, hW0⟩ : ∃ W, W = V := ⟨V, rfl⟩
  subst hW0
  refine CallR.of Try.func61 rfl rfl rfl rfl ?_
  refine Cw.seq ?_
  refine Cw.region ?_
  refine Lw.t rfl (T.box 2 (v := .agg [v0_0_, v0_1_, v0_2_, v0_3_].toArray) (cs := [v0_0_, v0_1_, v0_2_, v0_3_]) rfl rfl) ?_
  rintro _ _ ⟨g1, W1, rfl, rfl, l1, b1⟩
  have a2 : Le LL _ _ := l1.nil
  refine Lw.t rfl (T.alloc 3 (cs := [.slice none 0 0, .slice none 0 0, .slice none 0 0, .slice none 0 0]) rfl) ?_
  rintro _ _ ⟨g3, W3, rfl, rfl, l3, b3⟩
  have a4 : Le LL _ _ := l3.nil
  have b5 := b1.up l3 rfl
  refine Lw.nil ?_
  refine Cw.seq ?_
  refine Cw.draw [] [(0, 0), (1, 1), (3, 0), (4, 1), (6, 0), (7, 1), (9, 0), (10, 1), (2, 2), (5, 2), (8, 2), (11, 2), (12, 0), (13, 3)] mixed (by kernel_rfl) fun W6 l6 => ?_
  have a7 : Le LL _ _ := l6.nil
  have b8 := b5.up l6 rfl
  have b9 := b3.up l6 rfl
  refine Mw.p rfl rfl (fun _ => R.fa rfl) (Mw.q rfl rfl (fun _ c => R.ld (v := v0_0_) rfl rfl (b8.clc rfl rfl c)) (Mw.p rfl rfl (fun _ => R.fa rfl) (Mw.q rfl rfl (fun _ c => R.ld (v := v0_1_) rfl rfl (b8.clc rfl rfl c)) (Mw.p rfl rfl (fun _ => R.fa rfl) (Mw.q rfl rfl (fun _ c => R.ld (v := v0_2_) rfl rfl (b8.clc rfl rfl c)) (Mw.p rfl rfl (fun _ => R.fa rfl) (Mw.q rfl rfl (fun _ c => R.ld (v := v0_3_) rfl rfl (b8.clc rfl rfl c)) ?_)))))))
  have s10 := h0_0.ul (a2.trans (a4.trans a7))
  obtain ⟨z11, e12, hm⟩ := ob hm
  refine Mw.t rfl rfl (T.call rfl (p91 (K := [0]) (k0 := 4) s10 e12)) ?_
  rintro v0_13 _ ⟨W13, rfl, l13, ⟨_, rfl, f13_0⟩⟩
  have a14 : Le LL _ _ := l13.nil
  have b15 := b8.up l13 rfl
  have b16 := b9.up l13 rfl
  refine ⟨⟨_, rfl, (l13.sub (M := []) rfl)⟩, ?_⟩
  have s17 := h0_1.ul (a2.trans (a4.trans (a7.trans a14)))
  obtain ⟨z18, e19, hm⟩ := ob hm
  refine Mw.t rfl rfl (T.call rfl (p91 (K := [0]) (k0 := 5) s17 e19)) ?_
  rintro v0_20 _ ⟨W20, rfl, l20, ⟨_, rfl, f20_0⟩⟩
  have a21 : Le LL _ _ := l20.nil
  have o22 := f13_0.up l20 rfl
  have b23 := b15.up l20 rfl
  have b24 := b16.up l20 rfl
  refine ⟨⟨_, rfl, ((l13.sub (M := []) rfl).trans (l20.sub (M := []) rfl))⟩, ?_⟩
  have s25 := h0_2.ul (a2.trans (a4.trans (a7.trans (a14.trans a21))))
  obtain ⟨z26, e27, hm⟩ := ob hm
  refine Mw.t rfl rfl (T.call rfl (p91 (K := [0]) (k0 := 6) s25 e27)) ?_
  rintro v0_28 _ ⟨W28, rfl, l28, ⟨_, rfl, f28_0⟩⟩
  have a29 : Le LL _ _ := l28.nil
  have o30 := o22.up l28 rfl
  have o31 := f20_0.up l28 rfl
  have b32 := b23.up l28 rfl
  have b33 := b24.up l28 rfl
  refine ⟨⟨_, rfl, ((l13.sub (M := []) rfl).trans ((l20.sub (M := []) rfl).trans (l28.sub (M := []) rfl)))⟩, ?_⟩
  have s34 := h0_3.ul (a2.trans (a4.trans (a7.trans (a14.trans (a21.trans a29)))))
  obtain ⟨z35, e36, hm⟩ := ob hm
  refine Mw.t rfl rfl (T.call rfl (p91 (K := [0]) (k0 := 7) s34 e36)) ?_
  rintro v0_37 _ ⟨W37, rfl, l37, ⟨_, rfl, f37_0⟩⟩
  have a38 : Le LL _ _ := l37.nil
  have o39 := o30.up l37 rfl
  have o40 := o31.up l37 rfl
  have o41 := f28_0.up l37 rfl
  have b42 := b32.up l37 rfl
  have b43 := b33.up l37 rfl
  refine ⟨⟨_, rfl, ((l13.sub (M := []) rfl).trans ((l20.sub (M := []) rfl).trans ((l28.sub (M := []) rfl).trans (l37.sub (M := []) rfl))))⟩, ?_⟩
  refine Mw.p rfl rfl (fun _ => R.bd (zs := [.slice none 0 0, .slice none 0 0, .slice none 0 0, .slice none 0 0]) (cs := [v0_13, v0_20, v0_28, v0_37]) [(0, v0_13), (1, v0_20), (2, v0_28), (3, v0_37)] rfl rfl rfl (bp_cons o39.oc rfl (bp_cons o40.oc rfl (bp_cons o41.oc rfl (bp_cons f37_0.oc rfl bp_nil))))) ?_
  refine Mw.lu rfl (T.sta (vs := [v0_13, v0_20, v0_28, v0_37]) b43 rfl rfl (oc_cons o39.oc (oc_cons o40.oc (oc_cons o41.oc (oc_cons f37_0.oc oc_nil)))) rfl rfl) ?_
  rintro _ _ ⟨W44, rfl, l44, b44⟩
  have a45 : Le LL _ _ := l44.sub rfl
  have o46 := o39.up l44 rfl
  have o47 := o40.up l44 rfl
  have o48 := o41.up l44 rfl
  have o49 := f37_0.up l44 rfl
  have b50 := b42.up l44 rfl
  refine Mw.nil ?_
  obtain ⟨W51, ew51, l51, o51⟩ := o46.dyeO 31
  have a52 : Le LL _ _ := l51.sub rfl
  have o53 := o47.up l51 rfl
  have o54 := o48.up l51 rfl
  have o55 := o49.up l51 rfl
  have b56 := b50.up l51 rfl
  have b57 := b44.up l51 rfl
  obtain ⟨W58, ew58, l58, o58⟩ := o53.dyeO 32
  have a59 : Le LL _ _ := l58.sub rfl
  have o60 := o54.up l58 rfl
  have o61 := o55.up l58 rfl
  have o62 := o51.up l58 rfl
  have b63 := b56.up l58 rfl
  have b64 := b57.up l58 rfl
  obtain ⟨W65, ew65, l65, o65⟩ := o60.dyeO 33
  have a66 : Le LL _ _ := l65.sub rfl
  have o67 := o61.up l65 rfl
  have o68 := o62.up l65 rfl
  have o69 := o58.up l65 rfl
  have b70 := b63.up l65 rfl
  have b71 := b64.up l65 rfl
  obtain ⟨W72, ew72, l72, o72⟩ := o67.dyeO 34
  have a73 : Le LL _ _ := l72.sub rfl
  have o74 := o68.up l72 rfl
  have o75 := o69.up l72 rfl
  have o76 := o65.up l72 rfl
  have b77 := b70.up l72 rfl
  have b78 := b71.up l72 rfl
  cases hm
  rw [← ew72.trans (ew65.trans (ew58.trans (ew51)))]
  exact Cw.ret (retA1 rfl b78 (Res.mk (a2.trans (a4.trans (a7.trans (a14.trans (a21.trans (a29.trans (a38.trans (a45.trans (a52.trans (a59.trans (a66.trans a73))))))))))) ⟨v0_13, v0_20, v0_28, v0_37, rfl, o74.s, o75.s, o76.s, o72.s⟩))

theorem p61 {W : CW} {K : List Nat} {x0 : Vm.Memo} {v0_0_ : Value} {v0_1_ : Value} {v0_2_ : Value} {v0_3_ : Value} {k0 : Nat} {k1 : Nat} {k2 : Nat} {k3 : Nat} {r : Vm.Memo} (h0 : Rd W K [v0_0_, v0_1_, v0_2_, v0_3_] x0) (hm : Vm.impl_Memo_own x0 = some r) : CallR Try.prog 61 [.agg [v0_0_, v0_1_, v0_2_, v0_3_].toArray].toArray W.w (Res W [] fun W' v => ∃ (u0_0 : Value) (u0_1 : Value) (u0_2 : Value) (u0_3 : Value), v = .agg [u0_0, u0_1, u0_2, u0_3].toArray ∧ Ow W' k0 [] [u0_0] r.Old ∧ Ow W' k1 [] [u0_1] r.One ∧ Ow W' k2 [] [u0_2] r.Two ∧ Ow W' k3 [] [u0_3] r.Done) :=
  CallR.adJ (J := []) (fun c => bif Nat.beq c 0 then 0 else bif Nat.beq c 31 then k0 else bif Nat.beq c 32 then k1 else bif Nat.beq c 33 then k2 else bif Nat.beq c 34 then k3 else 0) (c61 (V := W.view K []) (h0.view _) hm) fun _ _ ⟨u0_0, u0_1, u0_2, u0_3, e, f0, f1, f2, f3⟩ => ⟨u0_0, u0_1, u0_2, u0_3, e, f0.one1.backN rfl, f1.one1.backN rfl, f2.one1.backN rfl, f3.one1.backN rfl⟩

theorem c62 {V : CW} {x0 : List Vm.Memo} {v0_ : Value} {r : (List Vm.Memo)} (h0 : Rd V [0] [v0_] x0) (hm : Vm.impl_ownMemos x0 = some r) : CallR Try.prog 62 [v0_].toArray V.w (Res V LL fun Wf v => ∃ (u0 : Value), v = u0 ∧ OwS Wf LL [] [u0] r) := by
  unfold Vm.impl_ownMemos at hm
  obtain ⟨W0, hW0⟩ : ∃ W, W = V := ⟨V, rfl⟩
  subst hW0
  refine CallR.of Try.func62 rfl rfl rfl rfl ?_
  refine Cw.seq ?_
  refine Cw.region ?_
  refine Lw.r rfl (R.as (v := .slice none 0 0) rfl) ?_
  refine Lw.nil ?_
  refine Cw.seq ?_
  refine Cw.region ?_
  refine Lw.r rfl (R.as (v := .slice none 0 0) rfl) ?_
  refine Lw.nil ?_
  refine Cw.seq ?_
  refine Cw.seq ?_
  refine Cw.region ?_
  refine Lw.r rfl (R.mv (v := v0_) rfl) (Lw.r rfl (lenR (xs := x0) h0 rfl) (Lw.r rfl (R.mv (v := vI 0) rfl) ?_))
  refine Lw.nil ?_
  refine Cw.block ?_
  obtain ⟨K7, hK7, hm⟩ := jn_e hm
  refine Cw.loop 8 17 [3, 5, 8] (fun m l w => ∃ (y1 : List Vm.Memo) (y5 : Int) (v2 j4 : Value) (W6 : CW), W6.w = w ∧ Le [2, 3, 4, 5, 6, 7] W0 W6 ∧ l = [v2, j4, vI y5] ∧ Ow W6 2 [] [v2] y1 ∧ Vm.impl_ownMemos_l1 x0 K7 m y1 y5 = some r) (((x0.length : Int) - 0).toNat + 1) ⟨([] : List Memo), 0, .slice none 0 0, undef, W0, rfl, Le.refl _ _, rfl, owN 2 [], hm⟩ ?_
  rintro m8 _ _ σ ⟨y1, y5, v2, j4, W6, rfl, l6, rfl, o3, hm⟩
  obtain _ | m8 := m8
  · cases hm
  unfold Vm.impl_ownMemos_l1 at hm
  have a9 : Le LL _ _ := l6.sub rfl
  refine Cw.seq ?_
  refine Cw.region ?_
  refine Lw.r rfl (R.lt rfl rfl) ?_
  refine Lw.nil ?_
  refine Cw.seq ?_
  refine Cw.cond (b := decide ((y5 : Int) < ((x0.length : Int) : Int))) rfl (fun hc10 => ?_) (fun hc10 => ?_)
  · replace hm := bt hm hc10
    refine Cw.skip ?_
    refine Cw.seq ?_
    refine Cw.block ?_
    refine Cw.seq ?_
    refine Cw.region ?_
    obtain ⟨u11, e12, hm⟩ := ob hm
    have s13 := h0.ul a9
    refine Lw.r rfl (R.ix (α := Memo) s13 e12 rfl rfl rfl) ?_
    obtain ⟨x14, c15, _, r16⟩ := (s13.at_ e12).cells
    obtain ⟨v17, v19, v21, v23, rfl, r18, r20, r22, r24⟩ := Memo.split r16
    refine Lw.r rfl (R.lda c15 rfl rfl) ?_
    refine Lw.t rfl (T.alloc 3 (cs := [.slice none 0 0, .slice none 0 0, .slice none 0 0, .slice none 0 0]) rfl) ?_
    rintro _ _ ⟨g25, W25, rfl, rfl, l25, b25⟩
    have a26 : Le LL _ _ := l25.nil
    have o27 := o3.up l25 rfl
    refine Lw.u (T.sta (vs := [v17, v19, v21, v23]) b25 rfl rfl (oc_cons r18.oc (oc_cons r20.oc (oc_cons r22.oc (oc_cons r24.oc oc_nil)))) rfl rfl) ?_
    rintro _ _ ⟨W28, rfl, l28, b28⟩
    have a29 : Le LL _ _ := l28.sub rfl
    have o30 := o27.up l28 rfl
    refine Lw.nil ?_
    refine Cw.region ?_
    refine Lw.r rfl (R.mv (v := v2) rfl) (Lw.r rfl (R.lda (cs := [v17, v19, v21, v23]) b28.cells rfl rfl) ?_)
    have s31 := r18.ul (a26.trans a29)
    have s32 := r20.ul (a26.trans a29)
    have s33 := r22.ul (a26.trans a29)
    have s34 := r24.ul (a26.trans a29)
    obtain ⟨z35, e36, hm⟩ := ob hm
    refine Lw.t rfl (T.call rfl (p61 (K := [0]) (k0 := 4) (k1 := 5) (k2 := 6) (k3 := 7) (Memo.rd (K := [0]) u11.Old u11.One u11.Two u11.Done s31 s32 s33 s34) e36)) ?_
    rintro _ _ ⟨W37, rfl, l37, ⟨v0_0_37, v0_1_37, v0_2_37, v0_3_37, rfl, f37_0, f37_1, f37_2, f37_3⟩⟩
    have a38 : Le LL _ _ := l37.nil
    have o39 := o30.up l37 rfl
    have b40 := b28.up l37 rfl
    refine Lw.t rfl (T.bs 8 [.agg [v0_0_37, v0_1_37, v0_2_37, v0_3_37].toArray] (cs := [v0_0_37, v0_1_37, v0_2_37, v0_3_37]) rfl rfl (bsA rfl)) ?_
    rintro _ _ ⟨g41, W41, rfl, rfl, l41, b41⟩
    have a42 : Le LL _ _ := l41.nil
    have o43 := o39.up l41 rfl
    have o44 := f37_0.up l41 rfl
    have o45 := f37_1.up l41 rfl
    have o46 := f37_2.up l41 rfl
    have o47 := f37_3.up l41 rfl
    have b48 := b40.up l41 rfl
    obtain ⟨q49, e50, hm⟩ := ob hm
    refine Lw.t rfl (T.app1 (α := Memo) (J := [4, 5, 6, 7]) (K' := []) o43 b41 (Memo.own z35.Old z35.One z35.Two z35.Done o44.s o45.s o46.s o47.s) rfl rfl e50) ?_
    rintro v51 _ ⟨W51, rfl, l51, o51⟩
    have a52 : Le LL _ _ := l51.sub rfl
    have b53 := b48.up l51 rfl
    have b54 := b41.up l51 rfl
    refine Lw.r rfl (R.as (v := v51) rfl) ?_
    refine Lw.nil ?_
    refine Cw.region ?_
    refine Lw.r rfl (R.add rfl rfl) (Lw.r rfl (R.mv (v := vI (w64 (y5 + 1))) rfl) ?_)
    refine Lw.nil ?_
    refine ⟨?_, m8, Nat.lt_succ_self m8, ⟨q49, w64 (y5 + 1), v51, ptr (bx g25), W51, rfl, (l6.trans ((l25.sub rfl).trans ((l28.sub rfl).trans ((l37.sub rfl).trans ((l41.sub rfl).trans (l51.sub rfl)))))), rfl, o51, hm⟩⟩
    iterate 12 (refine Agree.up rfl ?_)
    iterate 3 (refine Agree.up rfl ?_)
    exact Agree.base
  · replace hm := bf hm hc10
    refine Cw.exit ?_
    rw [hK7] at hm
    refine Cw.seq ?_
    refine Cw.region ?_
    refine Lw.r rfl (R.mv (v := v2) rfl) (Lw.r rfl (R.as (v := v2) rfl) ?_)
    refine Lw.nil ?_
    cases hm
    exact Cw.ret (ret1 rfl (Res.mk a9 ⟨v2, rfl, o3.s.sub rfl rfl⟩))

theorem p62 {W : CW} {K : List Nat} {x0 : List Vm.Memo} {v0_ : Value} {k0 : Nat} {r : (List Vm.Memo)} (h0 : Rd W K [v0_] x0) (hm : Vm.impl_ownMemos x0 = some r) : CallR Try.prog 62 [v0_].toArray W.w (Res W [] fun W' v => ∃ (u0 : Value), v = u0 ∧ Ow W' k0 [] [u0] r) :=
  (c62 (V := W.view K []) (h0.view _) hm).ad (fk k0) fun _ _ ⟨u0, e, f0⟩ => ⟨u0, e, f0.back (fk_LL _)⟩

theorem c18 {V : CW} {x0 : List Vm.Memo} {v0_ : Value} {x1 : Vm.Memo} {v1_0_ : Value} {v1_1_ : Value} {v1_2_ : Value} {v1_3_ : Value} {r : (List Vm.Memo) × Bool} (h0 : Rd V [0] [v0_] x0) (h1 : Rd V [0] [v1_0_, v1_1_, v1_2_, v1_3_] x1) (hm : Vm.impl_MemoPut x0 x1 = some r) : CallR Try.prog 18 [v0_, .agg [v1_0_, v1_1_, v1_2_, v1_3_].toArray].toArray V.w (Res V LL fun Wf v => ∃ (u0 : Value), v = .tuple [u0, vB r.2].toArray ∧ OwS Wf LL [] [u0] r.1) := by
  unfold Vm.impl_MemoPut at hm
  obtain ⟨w1_0, w1_1, w1_2, w1_3, he1, h1_0, h1_1, h1_2, h1_3⟩ := Memo.split h1
  simp only [List.cons.injEq, and_true, true_and] at he1
  obtain ⟨rfl, rfl, rfl, rfl⟩ := he1
  obtain ⟨W0, hW0⟩ : ∃ W, W = V := ⟨V, rfl⟩
  subst hW0
  refine CallR.of Try.func18 rfl rfl rfl rfl ?_
  refine Cw.seq ?_
  refine Cw.region ?_
  refine Lw.t rfl (T.box 2 (v := .agg [v1_0_, v1_1_, v1_2_, v1_3_].toArray) (cs := [v1_0_, v1_1_, v1_2_, v1_3_]) rfl rfl) ?_
  rintro _ _ ⟨g1, W1, rfl, rfl, l1, b1⟩
  have a2 : Le LL _ _ := l1.nil
  refine Lw.r rfl (R.as (v := .slice none 0 0) rfl) (Lw.r rfl (R.as (v := vB false) rfl) ?_)
  refine Lw.nil ?_
  refine Cw.seq ?_
  refine Cw.seq ?_
  refine Cw.region ?_
  refine Lw.r rfl (R.mv (v := v0_) rfl) ?_
  have s3 := h0.ul a2
  obtain ⟨z4, e5, hm⟩ := ob hm
  refine Lw.t rfl (T.call rfl (p15 (K := [0])  s3 e5)) ?_
  rintro _ _ ⟨W6, rfl, l6, rfl⟩
  have a7 : Le LL _ _ := l6.nil
  have b8 := b1.up l6 rfl
  refine Lw.r rfl (R.not rfl) ?_
  refine Lw.nil ?_
  refine Cw.cond (b := (!z4)) rfl (fun hc9 => ?_) (fun hc9 => ?_)
  · replace hm := bt hm hc9
    refine Cw.seq ?_
    refine Cw.region ?_
    refine Lw.r rfl (R.as (v := .slice none 0 0) rfl) (Lw.r rfl (R.as (v := vB false) rfl) ?_)
    refine Lw.nil ?_
    cases hm
    exact Cw.ret (ret2 rfl rfl (Res.mk (a2.trans a7) ⟨.slice none 0 0, rfl, (owsN []).sub rfl rfl⟩))
  · replace hm := bf hm hc9
    refine Cw.skip ?_
    refine Cw.seq ?_
    refine Cw.region ?_
    refine Lw.r rfl (R.as (v := .slice none 0 0) rfl) ?_
    refine Lw.nil ?_
    refine Cw.seq ?_
    refine Cw.seq ?_
    refine Cw.region ?_
    have s10 := h0.ul (a2.trans a7)
    refine Lw.r rfl (R.mv (v := v0_) rfl) (Lw.r rfl (lenR (xs := x0) s10 rfl) (Lw.r rfl (R.mv (v := vI 0) rfl) ?_))
    refine Lw.nil ?_
    refine Cw.block ?_
    obtain ⟨K17, hK17, hm⟩ := jn_e hm
    refine Cw.loop 14 32 [6, 8, 14] (fun m l w => ∃ (y11 : List Vm.Memo) (y15 : Int) (v12 j14 : Value) (W16 : CW), W16.w = w ∧ Le [3, 4, 5, 6, 7, 8] W6 W16 ∧ l = [v12, j14, vI y15] ∧ Ow W16 3 [] [v12] y11 ∧ Vm.impl_MemoPut_l1 x0 x1 K17 m y11 y15 = some r) (((x0.length : Int) - 0).toNat + 1) ⟨([] : List Memo), 0, .slice none 0 0, undef, W6, rfl, Le.refl _ _, rfl, owN 3 [], hm⟩ ?_
    rintro m18 _ _ σ ⟨y11, y15, v12, j14, W16, rfl, l16, rfl, o13, hm⟩
    obtain _ | m18 := m18
    · cases hm
    unfold Vm.impl_MemoPut_l1 at hm
    have a19 : Le LL _ _ := l16.sub rfl
    have b20 := b8.up l16 rfl
    refine Cw.seq ?_
    refine Cw.region ?_
    refine Lw.r rfl (R.lt rfl rfl) ?_
    refine Lw.nil ?_
    refine Cw.seq ?_
    refine Cw.cond (b := decide ((y15 : Int) < ((x0.length : Int) : Int))) rfl (fun hc21 => ?_) (fun hc21 => ?_)
    · replace hm := bt hm hc21
      refine Cw.skip ?_
      obtain ⟨K27, hK27, hm⟩ := jn_e hm
      refine Cw.join 16 31 [6, 8] (fun l w => ∃ (y22 : List Vm.Memo) (v23 j25 : Value) (W26 : CW), W26.w = w ∧ Le [3, 4, 5, 6, 7, 8] W16 W26 ∧ l = [v23, j25] ∧ Ow W26 3 [] [v23] y22 ∧ K27 y22 = some r) ?_ ?_
      · rintro _ _ σ ⟨y22, v23, j25, W26, rfl, l26, rfl, o24, hm⟩
        rw [hK27] at hm
        have a28 : Le LL _ _ := l26.sub rfl
        have b29 := b20.up l26 rfl
        refine Cw.region ?_
        refine Lw.r rfl (R.add rfl rfl) (Lw.r rfl (R.mv (v := vI (w64 (y15 + 1))) rfl) ?_)
        refine Lw.nil ?_
        refine ⟨?_, m18, Nat.lt_succ_self m18, ⟨y22, w64 (y15 + 1), v23, j25, W26, rfl, (l16.trans l26), rfl, o24, hm⟩⟩
        iterate 2 (refine Agree.up rfl ?_)
        iterate 2 (refine Agree.up rfl ?_)
        refine Agree.ov0 rfl ?_
        iterate 1 (refine Agree.up rfl ?_)
        iterate 3 (refine Agree.up rfl ?_)
        exact Agree.base
      · refine Cw.block ?_
        refine Cw.seq ?_
        refine Cw.region ?_
        obtain ⟨u30, e31, hm⟩ := ob hm
        have s32 := h0.ul (a2.trans (a7.trans a19))
        refine Lw.r rfl (R.ix (α := Memo) s32 e31 rfl rfl rfl) ?_
        obtain ⟨x33, c34, _, r35⟩ := (s32.at_ e31).cells
        obtain ⟨v36, v38, v40, v42, rfl, r37, r39, r41, r43⟩ := Memo.split r35
        refine Lw.r rfl (R.lda c34 rfl rfl) ?_
        refine Lw.t rfl (T.alloc 4 (cs := [.slice none 0 0, .slice none 0 0, .slice none 0 0, .slice none 0 0]) rfl) ?_
        rintro _ _ ⟨g44, W44, rfl, rfl, l44, b44⟩
        have a45 : Le LL _ _ := l44.nil
        have o46 := o13.up l44 rfl
        have b47 := b20.up l44 rfl
        refine Lw.u (T.sta (vs := [v36, v38, v40, v42]) b44 rfl rfl (oc_cons r37.oc (oc_cons r39.oc (oc_cons r41.oc (oc_cons r43.oc oc_nil)))) rfl rfl) ?_
        rintro _ _ ⟨W48, rfl, l48, b48⟩
        have a49 : Le LL _ _ := l48.sub rfl
        have o50 := o46.up l48 rfl
        have b51 := b47.up l48 rfl
        refine Lw.nil ?_
        refine Cw.seq ?_
        refine Cw.region ?_
        refine Lw.r rfl (R.lda (cs := [v36, v38, v40, v42]) b48.cells rfl rfl) (Lw.r rfl (R.fa rfl) (Lw.r rfl (R.ld (v := v1_0_) rfl rfl (b51.cell rfl)) (Lw.r rfl (R.fa rfl) (Lw.r rfl (R.ld (v := v1_1_) rfl rfl (b51.cell rfl)) (Lw.r rfl (R.fa rfl) (Lw.r rfl (R.ld (v := v1_2_) rfl rfl (b51.cell rfl)) ?_))))))
        have s52 := r37.ul (a45.trans a49)
        have s53 := r39.ul (a45.trans a49)
        have s54 := r41.ul (a45.trans a49)
        have s55 := r43.ul (a45.trans a49)
        have s56 := h1_0.ul (a2.trans (a7.trans (a19.trans (a45.trans a49))))
        have s57 := h1_1.ul (a2.trans (a7.trans (a19.trans (a45.trans a49))))
        have s58 := h1_2.ul (a2.trans (a7.trans (a19.trans (a45.trans a49))))
        obtain ⟨z59, e60, hm⟩ := ob hm
        refine Lw.t rfl (T.call rfl (p57 (K := [0])  (Memo.rd (K := [0]) u30.Old u30.One u30.Two u30.Done s52 s53 s54 s55) s56 s57 s58 e60)) ?_
        rintro _ _ ⟨W61, rfl, l61, rfl⟩
        have a62 : Le LL _ _ := l61.nil
        have o63 := o50.up l61 rfl
        have b64 := b51.up l61 rfl
        have b65 := b48.up l61 rfl
        refine Lw.r rfl (R.not rfl) ?_
        refine Lw.nil ?_
        refine Cw.cond (b := (!z59)) rfl (fun hc66 => ?_) (fun hc66 => ?_)
        · replace hm := bt hm hc66
          refine Cw.region ?_
          refine Lw.r rfl (R.mv (v := v12) rfl) (Lw.r rfl (R.lda (cs := [v36, v38, v40, v42]) b65.cells rfl rfl) ?_)
          have s67 := r37.ul (a45.trans (a49.trans a62))
          have s68 := r39.ul (a45.trans (a49.trans a62))
          have s69 := r41.ul (a45.trans (a49.trans a62))
          have s70 := r43.ul (a45.trans (a49.trans a62))
          obtain ⟨z71, e72, hm⟩ := ob hm
          refine Lw.t rfl (T.call rfl (p61 (K := [0]) (k0 := 5) (k1 := 6) (k2 := 7) (k3 := 8) (Memo.rd (K := [0]) u30.Old u30.One u30.Two u30.Done s67 s68 s69 s70) e72)) ?_
          rintro _ _ ⟨W73, rfl, l73, ⟨v0_0_73, v0_1_73, v0_2_73, v0_3_73, rfl, f73_0, f73_1, f73_2, f73_3⟩⟩
          have a74 : Le LL _ _ := l73.nil
          have o75 := o63.up l73 rfl
          have b76 := b64.up l73 rfl
          have b77 := b65.up l73 rfl
          refine Lw.t rfl (T.bs 9 [.agg [v0_0_73, v0_1_73, v0_2_73, v0_3_73].toArray] (cs := [v0_0_73, v0_1_73, v0_2_73, v0_3_73]) rfl rfl (bsA rfl)) ?_
          rintro _ _ ⟨g78, W78, rfl, rfl, l78, b78⟩
          have a79 : Le LL _ _ := l78.nil
          have o80 := o75.up l78 rfl
          have o81 := f73_0.up l78 rfl
          have o82 := f73_1.up l78 rfl
          have o83 := f73_2.up l78 rfl
          have o84 := f73_3.up l78 rfl
          have b85 := b76.up l78 rfl
          have b86 := b77.up l78 rfl
          obtain ⟨q87, e88, hm⟩ := ob hm
          refine Lw.t rfl (T.app1 (α := Memo) (J := [5, 6, 7, 8]) (K' := []) o80 b78 (Memo.own z71.Old z71.One z71.Two z71.Done o81.s o82.s o83.s o84.s) rfl rfl e88) ?_
          rintro v89 _ ⟨W89, rfl, l89, o89⟩
          have a90 : Le LL _ _ := l89.sub rfl
          have b91 := b85.up l89 rfl
          have b92 := b86.up l89 rfl
          have b93 := b78.up l89 rfl
          refine Lw.r rfl (R.as (v := v89) rfl) ?_
          refine Lw.nil ?_
          refine ⟨?_, ⟨q87, v89, ptr (bx g44), W89, rfl, ((l44.sub rfl).trans ((l48.sub rfl).trans ((l61.sub rfl).trans ((l73.sub rfl).trans ((l78.sub rfl).trans (l89.sub rfl)))))), rfl, o89, hm⟩⟩
          iterate 18 (refine Agree.up rfl ?_)
          exact Agree.refl _
        · replace hm := bf hm hc66
          refine Cw.skip ?_
          refine ⟨?_, ⟨y11, v12, ptr (bx g44), W61, rfl, ((l44.sub rfl).trans ((l48.sub rfl).trans (l61.sub rfl))), rfl, o63, hm⟩⟩
          iterate 12 (refine Agree.up rfl ?_)
          exact Agree.refl _
    · replace hm := bf hm hc21
      refine Cw.exit ?_
      rw [hK17] at hm
      refine Cw.seq ?_
      refine Cw.region ?_
      refine Lw.r rfl (R.mv (v := v12) rfl) (Lw.r rfl (R.lda (cs := [v1_0_, v1_1_, v1_2_, v1_3_]) b20.cells rfl rfl) ?_)
      have s94 := h1_0.ul (a2.trans (a7.trans a19))
      have s95 := h1_1.ul (a2.trans (a7.trans a19))
      have s96 := h1_2.ul (a2.trans (a7.trans a19))
      have s97 := h1_3.ul (a2.trans (a7.trans a19))
      obtain ⟨z98, e99, hm⟩ := ob hm
      refine Lw.t rfl (T.call rfl (p61 (K := [0]) (k0 := 10) (k1 := 11) (k2 := 12) (k3 := 13) (Memo.rd (K := [0]) x1.Old x1.One x1.Two x1.Done s94 s95 s96 s97) e99)) ?_
      rintro _ _ ⟨W100, rfl, l100, ⟨v0_0_100, v0_1_100, v0_2_100, v0_3_100, rfl, f100_0, f100_1, f100_2, f100_3⟩⟩
      have a101 : Le LL _ _ := l100.nil
      have o102 := o13.up l100 rfl
      have b103 := b20.up l100 rfl
      refine Lw.t rfl (T.bs 14 [.agg [v0_0_100, v0_1_100, v0_2_100, v0_3_100].toArray] (cs := [v0_0_100, v0_1_100, v0_2_100, v0_3_100]) rfl rfl (bsA rfl)) ?_
      rintro _ _ ⟨g104, W104, rfl, rfl, l104, b104⟩
      have a105 : Le LL _ _ := l104.nil
      have o106 := o102.up l104 rfl
      have o107 := f100_0.up l104 rfl
      have o108 := f100_1.up l104 rfl
      have o109 := f100_2.up l104 rfl
      have o110 := f100_3.up l104 rfl
      have b111 := b103.up l104 rfl
      obtain ⟨q112, e113, hm⟩ := ob hm
      refine Lw.t rfl (T.app1 (α := Memo) (J := [10, 11, 12, 13]) (K' := []) o106 b104 (Memo.own z98.Old z98.One z98.Two z98.Done o107.s o108.s o109.s o110.s) rfl rfl e113) ?_
      rintro v114 _ ⟨W114, rfl, l114, o114⟩
      have a115 : Le LL _ _ := l114.sub rfl
      have b116 := b111.up l114 rfl
      have b117 := b104.up l114 rfl
      refine Lw.r rfl (R.as (v := v114) rfl) ?_
      refine Lw.nil ?_
      refine Cw.seq ?_
      refine Cw.seq ?_
      refine Cw.region ?_
      refine Lw.r rfl (R.mv (v := v114) rfl) ?_
      obtain ⟨z118, e119, hm⟩ := ob hm
      refine Lw.t rfl (T.call rfl (p15 (K := [3])  o114.rd e119)) ?_
      rintro _ _ ⟨W120, rfl, l120, rfl⟩
      have a121 : Le LL _ _ := l120.nil
      have o122 := o114.up l120 rfl
      have b123 := b116.up l120 rfl
      have b124 := b117.up l120 rfl
      refine Lw.r rfl (R.not rfl) ?_
      refine Lw.nil ?_
      refine Cw.cond (b := (!z118)) rfl (fun hc125 => ?_) (fun hc125 => ?_)
      · replace hm := bt hm hc125
        refine Cw.seq ?_
        refine Cw.region ?_
        refine Lw.r rfl (R.mv (v := v0_) rfl) ?_
        have s126 := h0.ul (a2.trans (a7.trans (a19.trans (a101.trans (a105.trans (a115.trans a121))))))
        obtain ⟨z127, e128, hm⟩ := ob hm
        refine Lw.t rfl (T.call rfl (p62 (K := [0]) (k0 := 15) s126 e128)) ?_
        rintro v0_129 _ ⟨W129, rfl, l129, ⟨_, rfl, f129_0⟩⟩
        have a130 : Le LL _ _ := l129.nil
        have o131 := o122.up l129 rfl
        have b132 := b123.up l129 rfl
        have b133 := b124.up l129 rfl
        refine Lw.r rfl (R.as (v := v0_129) rfl) (Lw.r rfl (R.as (v := vB false) rfl) ?_)
        refine Lw.nil ?_
        cases hm
        exact Cw.ret (ret2 rfl rfl (Res.mk (a2.trans (a7.trans (a19.trans (a101.trans (a105.trans (a115.trans (a121.trans a130))))))) ⟨v0_129, rfl, f129_0.s.sub rfl rfl⟩))
      · replace hm := bf hm hc125
        refine Cw.skip ?_
        refine Cw.seq ?_
        refine Cw.region ?_
        refine Lw.r rfl (R.mv (v := v114) rfl) (Lw.r rfl (R.as (v := v114) rfl) (Lw.r rfl (R.as (v := vB true) rfl) ?_))
        refine Lw.nil ?_
        cases hm
        exact Cw.ret (ret2 rfl rfl (Res.mk (a2.trans (a7.trans (a19.trans (a101.trans (a105.trans (a115.trans a121)))))) ⟨v114, rfl, o122.s.sub rfl rfl⟩))

theorem p18 {W : CW} {K : List Nat} {x0 : List Vm.Memo} {v0_ : Value} {x1 : Vm.Memo} {v1_0_ : Value} {v1_1_ : Value} {v1_2_ : Value} {v1_3_ : Value} {k0 : Nat} {r : (List Vm.Memo) × Bool} (h0 : Rd W K [v0_] x0) (h1 : Rd W K [v1_0_, v1_1_, v1_2_, v1_3_] x1) (hm : Vm.impl_MemoPut x0 x1 = some r) : CallR Try.prog 18 [v0_, .agg [v1_0_, v1_1_, v1_2_, v1_3_].toArray].toArray W.w (Res W [] fun W' v => ∃ (u0 : Value), v = .tuple [u0, vB r.2].toArray ∧ Ow W' k0 [] [u0] r.1) :=
  (c18 (V := W.view K []) (h0.view _) (h1.view _) hm).ad (fk k0) fun _ _ ⟨u0, e, f0⟩ => ⟨u0, e, f0.back (fk_LL _)⟩

theorem c39 {V : CW} {x0 : List Str} {v0_ : Value} {x1 : List Str} {v1_ : Value} {r : Bool} (h0 : Rd V [0] [v0_] x0) (h1 : Rd V [0] [v1_] x1) (hm : Vm.laws_smTexts x0 x1 = some r) : CallR Try.prog 39 [v0_, v1_].toArray V.w (Res V LL fun Wf v => v = vB r) := by
  unfold Vm.laws_smTexts at hm
  obtain ⟨W0, hW0⟩ : ∃ W, W = V := ⟨V, rfl⟩
  subst hW0
  refine CallR.of Try.func39 rfl rfl rfl rfl ?_
  refine Cw.seq ?_
  refine Cw.region ?_
  refine Lw.r rfl (R.as (v := vB false) rfl) ?_
  refine Lw.nil ?_
  refine Cw.seq ?_
  refine Cw.seq ?_
  refine Cw.region ?_
  refine Lw.r rfl (R.mv (v := v0_) rfl) (Lw.r rfl (lenR (xs := x0) h0 rfl) (Lw.r rfl (R.mv (v := v1_) rfl) (Lw.r rfl (lenR (xs := x1) h1 rfl) (Lw.r rfl (R.ne rfl rfl) ?_))))
  refine Lw.nil ?_
  refine Cw.cond (b := (((x0.length : Int) : Int) != ((x1.length : Int) : Int))) rfl (fun hc1 => ?_) (fun hc1 => ?_)
  · replace hm := bt hm hc1
    refine Cw.seq ?_
    refine Cw.region ?_
    refine Lw.r rfl (R.as (v := vB false) rfl) ?_
    refine Lw.nil ?_
    cases hm
    exact Cw.ret (ret1 rfl (Res.mk (Le.refl _ _) rfl))
  · replace hm := bf hm hc1
    refine Cw.skip ?_
    refine Cw.seq ?_
    refine Cw.seq ?_
    refine Cw.region ?_
    refine Lw.r rfl (R.as (v := vI 0) rfl) ?_
    refine Lw.nil ?_
    refine Cw.block ?_
    obtain ⟨K5, hK5, hm⟩ := jn_e hm
    refine Cw.loop 11 25 [4, 5] (fun m l w => ∃ (y2 : Bool) (y3 : Int) (W4 : CW), W4.w = w ∧ Le [] W0 W4 ∧ l = [vB y2, vI y3] ∧ Vm.laws_smTexts_l1 x0 x1 K5 m y2 y3 = some r) (((x0.length : Int) - 0).toNat + 1) ⟨false, 0, W0, rfl, Le.refl _ _, rfl, hm⟩ ?_
    rintro m6 _ _ σ ⟨y2, y3, W4, rfl, l4, rfl, hm⟩
    obtain _ | m6 := m6
    · cases hm
    unfold Vm.laws_smTexts_l1 at hm
    have a7 : Le LL _ _ := l4.nil
    refine Cw.seq ?_
    refine Cw.seq ?_
    refine Cw.region ?_
    have s8 := h0.ul a7
    refine Lw.r rfl (R.mv (v := vI y3) rfl) (Lw.r rfl (R.mv (v := v0_) rfl) (Lw.r rfl (lenR (xs := x0) s8 rfl) (Lw.r rfl (R.lt rfl rfl) ?_)))
    refine Lw.nil ?_
    refine Cw.cond (b := decide ((y3 : Int) < ((x0.length : Int) : Int))) rfl (fun hc9 => ?_) (fun hc9 => ?_)
    · replace hm := bt hm hc9
      refine Cw.skip ?_
      refine Cw.seq ?_
      refine Cw.block ?_
      refine Cw.seq ?_
      refine Cw.draw [] [(0, 0), (1, 0), (2, 0), (3, 1), (4, 0), (5, 0), (6, 0), (7, 1), (8, 0)] mixed (by kernel_rfl) fun W10 l10 => ?_
      have a11 : Le LL _ _ := l10.nil
      refine Mw.p rfl rfl (fun _ => R.mv (v := v0_) rfl) (Mw.p rfl rfl (fun _ => R.mv (v := vI y3) rfl) ?_)
      obtain ⟨u12, e13, hm⟩ := ob hm
      have s14 := h0.ul (a7.trans a11)
      refine Mw.p rfl rfl (fun _ => R.ix (α := Str) s14 e13 rfl rfl rfl) (Mw.q rfl rfl (fun _ c => R.ld rfl rfl (cl_cell (s14.at_ e13).1 rfl (s14.at_ e13).str c)) (Mw.p rfl rfl (fun _ => R.mv (v := v1_) rfl) (Mw.p rfl rfl (fun _ => R.mv (v := vI y3) rfl) ?_)))
      obtain ⟨u15, e16, hm⟩ := ob hm
      have s17 := h1.ul (a7.trans a11)
      refine Mw.p rfl rfl (fun _ => R.ix (α := Str) s17 e16 rfl rfl rfl) (Mw.q rfl rfl (fun _ c => R.ld rfl rfl (cl_cell (s17.at_ e16).1 rfl (s17.at_ e16).str c)) (Mw.p rfl rfl (fun _ => R.sne rfl rfl) ?_))
      refine Mw.nil ?_
      refine Cw.cond (b := (u12 != u15)) rfl (fun hc18 => ?_) (fun hc18 => ?_)
      · replace hm := bt hm hc18
        refine Cw.seq ?_
        refine Cw.region ?_
        refine Lw.r rfl (R.as (v := vB false) rfl) ?_
        refine Lw.nil ?_
        cases hm
        exact Cw.ret (ret1 rfl (Res.mk (a7.trans a11) rfl))
      · replace hm := bf hm hc18
        refine Cw.skip ?_
        refine Cw.region ?_
        refine Lw.r rfl (R.mv (v := vI y3) rfl) (Lw.r rfl (R.add rfl rfl) (Lw.r rfl (R.as (v := vI (w64 (y3 + 1))) rfl) ?_))
        refine Lw.nil ?_
        refine ⟨?_, m6, Nat.lt_succ_self m6, ⟨y2, w64 (y3 + 1), W10, rfl, (l4.trans l10), rfl, hm⟩⟩
        iterate 16 (refine Agree.up rfl ?_)
        iterate 2 (refine Agree.up rfl ?_)
        exact Agree.base
    · replace hm := bf hm hc9
      refine Cw.exit ?_
      rw [hK5] at hm
      refine Cw.seq ?_
      refine Cw.region ?_
      refine Lw.r rfl (R.as (v := vB true) rfl) ?_
      refine Lw.nil ?_
      cases hm
      exact Cw.ret (ret1 rfl (Res.mk a7 rfl))

theorem p39 {W : CW} {K : List Nat} {x0 : List Str} {v0_ : Value} {x1 : List Str} {v1_ : Value} {r : Bool} (h0 : Rd W K [v0_] x0) (h1 : Rd W K [v1_] x1) (hm : Vm.laws_smTexts x0 x1 = some r) : CallR Try.prog 39 [v0_, v1_].toArray W.w (Res W [] fun W' v => v = vB r) :=
  (c39 (V := W.view K []) (h0.view _) (h1.view _) hm).ad (fk 0) fun _ _ e => e

theorem c20 {V : CW} {x0 : List Vm.Memo} {v0_ : Value} {x1 : List Vm.Memo} {v1_ : Value} {r : Bool} (h0 : Rd V [0] [v0_] x0) (h1 : Rd V [0] [v1_] x1) (hm : Vm.laws_smMemos x0 x1 = some r) : CallR Try.prog 20 [v0_, v1_].toArray V.w (Res V LL fun Wf v => v = vB r) := by
  unfold Vm.laws_smMemos at hm
  obtain ⟨W0, hW0⟩ : ∃ W, W = V := ⟨V, rfl⟩
  subst hW0
  refine CallR.of Try.func20 rfl rfl rfl rfl ?_
  refine Cw.seq ?_
  refine Cw.region ?_
  refine Lw.r rfl (R.as (v := vB false) rfl) ?_
  refine Lw.nil ?_
  refine Cw.seq ?_
  refine Cw.seq ?_
  refine Cw.region ?_
  refine Lw.r rfl (R.mv (v := v0_) rfl) (Lw.r rfl (lenR (xs := x0) h0 rfl) (Lw.r rfl (R.mv (v := v1_) rfl) (Lw.r rfl (lenR (xs := x1) h1 rfl) (Lw.r rfl (R.ne rfl rfl) ?_))))
  refine Lw.nil ?_
  refine Cw.cond (b := (((x0.length : Int) : Int) != ((x1.length : Int) : Int))) rfl (fun hc1 => ?_) (fun hc1 => ?_)
  · replace hm := bt hm hc1
    refine Cw.seq ?_
    refine Cw.region ?_
    refine Lw.r rfl (R.as (v := vB false) rfl) ?_
    refine Lw.nil ?_
    cases hm
    exact Cw.ret (ret1 rfl (Res.mk (Le.refl _ _) rfl))
  · replace hm := bf hm hc1
    refine Cw.skip ?_
    refine Cw.seq ?_
    refine Cw.seq ?_
    refine Cw.region ?_
    refine Lw.r rfl (R.as (v := vI 0) rfl) ?_
    refine Lw.nil ?_
    refine Cw.block ?_
    obtain ⟨K5, hK5, hm⟩ := jn_e hm
    refine Cw.loop 11 70 [4, 5] (fun m l w => ∃ (y2 : Bool) (y3 : Int) (W4 : CW), W4.w = w ∧ Le [] W0 W4 ∧ l = [vB y2, vI y3] ∧ Vm.laws_smMemos_l1 x0 x1 K5 m y2 y3 = some r) (((x0.length : Int) - 0).toNat + 1) ⟨false, 0, W0, rfl, Le.refl _ _, rfl, hm⟩ ?_
    rintro m6 _ _ σ ⟨y2, y3, W4, rfl, l4, rfl, hm⟩
    obtain _ | m6 := m6
    · cases hm
    unfold Vm.laws_smMemos_l1 at hm
    have a7 : Le LL _ _ := l4.nil
    refine Cw.seq ?_
    refine Cw.seq ?_
    refine Cw.region ?_
    have s8 := h0.ul a7
    refine Lw.r rfl (R.mv (v := vI y3) rfl) (Lw.r rfl (R.mv (v := v0_) rfl) (Lw.r rfl (lenR (xs := x0) s8 rfl) (Lw.r rfl (R.lt rfl rfl) ?_)))
    refine Lw.nil ?_
    refine Cw.cond (b := decide ((y3 : Int) < ((x0.length : Int) : Int))) rfl (fun hc9 => ?_) (fun hc9 => ?_)
    · replace hm := bt hm hc9
      refine Cw.skip ?_
      refine Cw.seq ?_
      refine Cw.block ?_
      obtain ⟨K12, hK12, hm⟩ := jn_e hm
      refine Cw.join 17 70 [70] (fun l w => ∃ (y10 : Bool) (W11 : CW), W11.w = w ∧ Le [] W4 W11 ∧ l = [vB y10] ∧ K12 y10 = some r) ?_ ?_
      · rintro _ _ σ ⟨y10, W11, rfl, l11, rfl, hm⟩
        rw [hK12] at hm
        have a13 : Le LL _ _ := l11.nil
        refine Cw.cond (b := y10) rfl (fun hc14 => ?_) (fun hc14 => ?_)
        · replace hm := bt hm hc14
          refine Cw.seq ?_
          refine Cw.region ?_
          refine Lw.r rfl (R.as (v := vB false) rfl) ?_
          refine Lw.nil ?_
          cases hm
          exact Cw.ret (ret1 rfl (Res.mk (a7.trans a13) rfl))
        · replace hm := bf hm hc14
          refine Cw.skip ?_
          refine Cw.region ?_
          refine Lw.r rfl (R.mv (v := vI y3) rfl) (Lw.r rfl (R.add rfl rfl) (Lw.r rfl (R.as (v := vI (w64 (y3 + 1))) rfl) ?_))
          refine Lw.nil ?_
          refine ⟨?_, m6, Nat.lt_succ_self m6, ⟨y2, w64 (y3 + 1), W11, rfl, (l4.trans l11), rfl, hm⟩⟩
          iterate 3 (refine Agree.up rfl ?_)
          iterate 1 (refine Agree.up rfl ?_)
          refine Agree.ov0 rfl ?_
          iterate 4 (refine Agree.up rfl ?_)
          iterate 2 (refine Agree.up rfl ?_)
          exact Agree.base
      · refine Cw.draw [] [(0, 0), (1, 0), (2, 0), (3, 0), (4, 1), (5, 0), (6, 0), (7, 0), (8, 0), (9, 1), (10, 2), (11, 0), (12, 0), (13, 0), (14, 0), (15, 0), (16, 0), (17, 1), (18, 0), (19, 0), (20, 0), (21, 0), (22, 1), (23, 2), (24, 0), (25, 0), (26, 0), (27, 0), (28, 0), (29, 0), (30, 0), (31, 1), (32, 0), (33, 0), (34, 0), (35, 0), (36, 1), (37, 2), (38, 0), (39, 0), (40, 0), (41, 0), (42, 0), (43, 0), (44, 0), (45, 1), (46, 0), (47, 0), (48, 0), (49, 0), (50, 1), (51, 2), (52, 0), (53, 0)] mixed (by kernel_rfl) fun W15 l15 => ?_
        have a16 : Le LL _ _ := l15.nil
        refine Mw.p rfl rfl (fun _ => R.mv (v := v0_) rfl) (Mw.p rfl rfl (fun _ => R.mv (v := vI y3) rfl) ?_)
        obtain ⟨u17, e18, hm⟩ := ob hm
        have s19 := h0.ul (a7.trans a16)
        refine Mw.p rfl rfl (fun _ => R.ix (α := Memo) s19 e18 rfl rfl rfl) (Mw.p rfl rfl (fun _ => R.fa rfl) ?_)
        obtain ⟨v20, c21, r22⟩ := (Memo.at0 (s19.at_ e18)).cell rfl
        refine Mw.q rfl rfl (fun _ c => R.ld rfl rfl (cl_cell (Memo.at0 (s19.at_ e18)).1 rfl c21 c)) (Mw.p rfl rfl (fun _ => R.mv (v := v1_) rfl) (Mw.p rfl rfl (fun _ => R.mv (v := vI y3) rfl) ?_))
        obtain ⟨u23, e24, hm⟩ := ob hm
        have s25 := h1.ul (a7.trans a16)
        refine Mw.p rfl rfl (fun _ => R.ix (α := Memo) s25 e24 rfl rfl rfl) (Mw.p rfl rfl (fun _ => R.fa rfl) ?_)
        obtain ⟨v26, c27, r28⟩ := (Memo.at0 (s25.at_ e24)).cell rfl
        refine Mw.q rfl rfl (fun _ c => R.ld rfl rfl (cl_cell (Memo.at0 (s25.at_ e24)).1 rfl c27 c)) ?_
        obtain ⟨z29, e30, hm⟩ := ob hm
        refine Mw.t rfl rfl (T.call rfl (p39 (K := [0])  r22 r28 e30)) ?_
        rintro _ _ ⟨W31, rfl, l31, rfl⟩
        have a32 : Le LL _ _ := l31.nil
        refine ⟨⟨_, rfl, (l31.sub (M := []) rfl)⟩, ?_⟩
        refine Mw.p rfl rfl (fun _ => R.not rfl) (Mw.p rfl rfl (fun _ => R.mv (v := vB (!z29)) rfl) ?_)
        refine bsplit (!z29) (fun hc33 => ?_) (fun hc33 => ?_)
        · replace hm := bt hm hc33
          refine Mw.pass' hc33 rfl rfl rfl rfl rfl rfl ?_
          refine Mw.pass' hc33 rfl rfl rfl rfl rfl rfl ?_
          refine Mw.pass' hc33 rfl rfl rfl rfl rfl rfl ?_
          refine Mw.pass' hc33 rfl rfl rfl rfl rfl rfl ?_
          refine Mw.pass' hc33 rfl rfl rfl rfl rfl rfl ?_
          refine Mw.pass' hc33 rfl rfl rfl rfl rfl rfl ?_
          refine Mw.pass' hc33 rfl rfl rfl rfl rfl rfl ?_
          refine Mw.pass' hc33 rfl rfl rfl rfl rfl rfl ?_
          refine Mw.pass' hc33 rfl rfl rfl rfl rfl rfl ?_
          refine Mw.pass' hc33 rfl rfl rfl rfl rfl rfl ?_
          refine Mw.pass' hc33 rfl rfl rfl rfl rfl rfl ?_
          refine Mw.pass' hc33 rfl rfl rfl rfl rfl rfl ?_
          refine Mw.p rfl rfl (fun _ => R.pk hc33 rfl (v := vB true) rfl) (Mw.p rfl rfl (fun _ => R.mv (v := vB true) rfl) ?_)
          refine Mw.pass' rfl rfl rfl rfl rfl rfl rfl ?_
          refine Mw.pass' rfl rfl rfl rfl rfl rfl rfl ?_
          refine Mw.pass' rfl rfl rfl rfl rfl rfl rfl ?_
          refine Mw.pass' rfl rfl rfl rfl rfl rfl rfl ?_
          refine Mw.pass' rfl rfl rfl rfl rfl rfl rfl ?_
          refine Mw.pass' rfl rfl rfl rfl rfl rfl rfl ?_
          refine Mw.pass' rfl rfl rfl rfl rfl rfl rfl ?_
          refine Mw.pass' rfl rfl rfl rfl rfl rfl rfl ?_
          refine Mw.pass' rfl rfl rfl rfl rfl rfl rfl ?_
          refine Mw.pass' rfl rfl rfl rfl rfl rfl rfl ?_
          refine Mw.pass' rfl rfl rfl rfl rfl rfl rfl ?_
          refine Mw.pass' rfl rfl rfl rfl rfl rfl rfl ?_
          refine Mw.p rfl rfl (fun _ => R.pk rfl rfl (v := vB true) rfl) (Mw.p rfl rfl (fun _ => R.mv (v := vB true) rfl) ?_)
          refine Mw.pass' rfl rfl rfl rfl rfl rfl rfl ?_
          refine Mw.pass' rfl rfl rfl rfl rfl rfl rfl ?_
          refine Mw.pass' rfl rfl rfl rfl rfl rfl rfl ?_
          refine Mw.pass' rfl rfl rfl rfl rfl rfl rfl ?_
          refine Mw.pass' rfl rfl rfl rfl rfl rfl rfl ?_
          refine Mw.pass' rfl rfl rfl rfl rfl rfl rfl ?_
          refine Mw.pass' rfl rfl rfl rfl rfl rfl rfl ?_
          refine Mw.pass' rfl rfl rfl rfl rfl rfl rfl ?_
          refine Mw.pass' rfl rfl rfl rfl rfl rfl rfl ?_
          refine Mw.pass' rfl rfl rfl rfl rfl rfl rfl ?_
          refine Mw.pass' rfl rfl rfl rfl rfl rfl rfl ?_
          refine Mw.pass' rfl rfl rfl rfl rfl rfl rfl ?_
          refine Mw.p rfl rfl (fun _ => R.pk rfl rfl (v := vB true) rfl) ?_
          refine Mw.nil ?_
          refine ⟨?_, ⟨true, W31, rfl, (l15.trans l31), rfl, hm⟩⟩
          iterate 54 (refine Agree.up rfl ?_)
          exact Agree.refl _
        · replace hm := bf hm hc33
          refine Mw.gp hc33 rfl rfl rfl rfl rfl (fun _ => R.mv (v := v0_) rfl) (Mw.gp hc33 rfl rfl rfl rfl rfl (fun _ => R.mv (v := vI y3) rfl) ?_)
          obtain ⟨u34, e35, hm⟩ := ob hm
          refine Mw.gp hc33 rfl rfl rfl rfl rfl (fun _ => R.ix (α := Memo) s19 e35 rfl rfl rfl) (Mw.gp hc33 rfl rfl rfl rfl rfl (fun _ => R.fa rfl) ?_)
          obtain ⟨v36, c37, r38⟩ := (Memo.at1 (s19.at_ e35)).cell rfl
          refine Mw.gq hc33 rfl rfl rfl rfl rfl (fun _ c => R.ld rfl rfl (cl_cell (Memo.at1 (s19.at_ e35)).1 rfl c37 c)) (Mw.gp hc33 rfl rfl rfl rfl rfl (fun _ => R.mv (v := v1_) rfl) (Mw.gp hc33 rfl rfl rfl rfl rfl (fun _ => R.mv (v := vI y3) rfl) ?_))
          obtain ⟨u39, e40, hm⟩ := ob hm
          refine Mw.gp hc33 rfl rfl rfl rfl rfl (fun _ => R.ix (α := Memo) s25 e40 rfl rfl rfl) (Mw.gp hc33 rfl rfl rfl rfl rfl (fun _ => R.fa rfl) ?_)
          obtain ⟨v41, c42, r43⟩ := (Memo.at1 (s25.at_ e40)).cell rfl
          refine Mw.gq hc33 rfl rfl rfl rfl rfl (fun _ c => R.ld rfl rfl (cl_cell (Memo.at1 (s25.at_ e40)).1 rfl c42 c)) ?_
          have s44 := r38.ul a32
          have s45 := r43.ul a32
          obtain ⟨z46, e47, hm⟩ := ob hm
          refine Mw.gt hc33 rfl rfl rfl rfl rfl (T.call rfl (p39 (K := [0])  s44 s45 e47)) ?_
          rintro _ _ ⟨W48, rfl, l48, rfl⟩
          have a49 : Le LL _ _ := l48.nil
          refine ⟨⟨_, rfl, ((l31.sub (M := []) rfl).trans (l48.sub (M := []) rfl))⟩, ?_⟩
          refine Mw.gp hc33 rfl rfl rfl rfl rfl (fun _ => R.not rfl) (Mw.p rfl rfl (fun _ => R.pk hc33 rfl (v := vB (!z46)) rfl) (Mw.p rfl rfl (fun _ => R.mv (v := vB (!z46)) rfl) ?_))
          refine bsplit (!z46) (fun hc50 => ?_) (fun hc50 => ?_)
          · replace hm := bt hm hc50
            refine Mw.pass' hc50 rfl rfl rfl rfl rfl rfl ?_
            refine Mw.pass' hc50 rfl rfl rfl rfl rfl rfl ?_
            refine Mw.pass' hc50 rfl rfl rfl rfl rfl rfl ?_
            refine Mw.pass' hc50 rfl rfl rfl rfl rfl rfl ?_
            refine Mw.pass' hc50 rfl rfl rfl rfl rfl rfl ?_
            refine Mw.pass' hc50 rfl rfl rfl rfl rfl rfl ?_
            refine Mw.pass' hc50 rfl rfl rfl rfl rfl rfl ?_
            refine Mw.pass' hc50 rfl rfl rfl rfl rfl rfl ?_
            refine Mw.pass' hc50 rfl rfl rfl rfl rfl rfl ?_
            refine Mw.pass' hc50 rfl rfl rfl rfl rfl rfl ?_
            refine Mw.pass' hc50 rfl rfl rfl rfl rfl rfl ?_
            refine Mw.pass' hc50 rfl rfl rfl rfl rfl rfl ?_
            refine Mw.p rfl rfl (fun _ => R.pk hc50 rfl (v := vB true) rfl) (Mw.p rfl rfl (fun _ => R.mv (v := vB true) rfl) ?_)
            refine Mw.pass' rfl rfl rfl rfl rfl rfl rfl ?_
            refine Mw.pass' rfl rfl rfl rfl rfl rfl rfl ?_
            refine Mw.pass' rfl rfl rfl rfl rfl rfl rfl ?_
            refine Mw.pass' rfl rfl rfl rfl rfl rfl rfl ?_
            refine Mw.pass' rfl rfl rfl rfl rfl rfl rfl ?_
            refine Mw.pass' rfl rfl rfl rfl rfl rfl rfl ?_
            refine Mw.pass' rfl rfl rfl rfl rfl rfl rfl ?_
            refine Mw.pass' rfl rfl rfl rfl rfl rfl rfl ?_
            refine Mw.pass' rfl rfl rfl rfl rfl rfl rfl ?_
            refine Mw.pass' rfl rfl rfl rfl rfl rfl rfl ?_
            refine Mw.pass' rfl rfl rfl rfl rfl rfl rfl ?_
            refine Mw.pass' rfl rfl rfl rfl rfl rfl rfl ?_
            refine Mw.p rfl rfl (fun _ => R.pk rfl rfl (v := vB true) rfl) ?_
            refine Mw.nil ?_
            refine ⟨?_, ⟨true, W48, rfl, (l15.trans (l31.trans l48)), rfl, hm⟩⟩
            iterate 54 (refine Agree.up rfl ?_)
            exact Agree.refl _
          · replace hm := bf hm hc50
            refine Mw.gp hc50 rfl rfl rfl rfl rfl (fun _ => R.mv (v := v0_) rfl) (Mw.gp hc50 rfl rfl rfl rfl rfl (fun _ => R.mv (v := vI y3) rfl) ?_)
            obtain ⟨u51, e52, hm⟩ := ob hm
            refine Mw.gp hc50 rfl rfl rfl rfl rfl (fun _ => R.ix (α := Memo) s19 e52 rfl rfl rfl) (Mw.gp hc50 rfl rfl rfl rfl rfl (fun _ => R.fa rfl) ?_)
            obtain ⟨v53, c54, r55⟩ := (Memo.at2 (s19.at_ e52)).cell rfl
            refine Mw.gq hc50 rfl rfl rfl rfl rfl (fun _ c => R.ld rfl rfl (cl_cell (Memo.at2 (s19.at_ e52)).1 rfl c54 c)) (Mw.gp hc50 rfl rfl rfl rfl rfl (fun _ => R.mv (v := v1_) rfl) (Mw.gp hc50 rfl rfl rfl rfl rfl (fun _ => R.mv (v := vI y3) rfl) ?_))
            obtain ⟨u56, e57, hm⟩ := ob hm
            refine Mw.gp hc50 rfl rfl rfl rfl rfl (fun _ => R.ix (α := Memo) s25 e57 rfl rfl rfl) (Mw.gp hc50 rfl rfl rfl rfl rfl (fun _ => R.fa rfl) ?_)
            obtain ⟨v58, c59, r60⟩ := (Memo.at2 (s25.at_ e57)).cell rfl
            refine Mw.gq hc50 rfl rfl rfl rfl rfl (fun _ c => R.ld rfl rfl (cl_cell (Memo.at2 (s25.at_ e57)).1 rfl c59 c)) ?_
            have s61 := r55.ul (a32.trans a49)
            have s62 := r60.ul (a32.trans a49)
            obtain ⟨z63, e64, hm⟩ := ob hm
            refine Mw.gt hc50 rfl rfl rfl rfl rfl (T.call rfl (p39 (K := [0])  s61 s62 e64)) ?_
            rintro _ _ ⟨W65, rfl, l65, rfl⟩
            have a66 : Le LL _ _ := l65.nil
            refine ⟨⟨_, rfl, ((l31.sub (M := []) rfl).trans ((l48.sub (M := []) rfl).trans (l65.sub (M := []) rfl)))⟩, ?_⟩
            refine Mw.gp hc50 rfl rfl rfl rfl rfl (fun _ => R.not rfl) (Mw.p rfl rfl (fun _ => R.pk hc50 rfl (v := vB (!z63)) rfl) (Mw.p rfl rfl (fun _ => R.mv (v := vB (!z63)) rfl) ?_))
            refine bsplit (!z63) (fun hc67 => ?_) (fun hc67 => ?_)
            · replace hm := bt hm hc67
              refine Mw.pass' hc67 rfl rfl rfl rfl rfl rfl ?_
              refine Mw.pass' hc67 rfl rfl rfl rfl rfl rfl ?_
              refine Mw.pass' hc67 rfl rfl rfl rfl rfl rfl ?_
              refine Mw.pass' hc67 rfl rfl rfl rfl rfl rfl ?_
              refine Mw.pass' hc67 rfl rfl rfl rfl rfl rfl ?_
              refine Mw.pass' hc67 rfl rfl rfl rfl rfl rfl ?_
              refine Mw.pass' hc67 rfl rfl rfl rfl rfl rfl ?_
              refine Mw.pass' hc67 rfl rfl rfl rfl rfl rfl ?_
              refine Mw.pass' hc67 rfl rfl rfl rfl rfl rfl ?_
              refine Mw.pass' hc67 rfl rfl rfl rfl rfl rfl ?_
              refine Mw.pass' hc67 rfl rfl rfl rfl rfl rfl ?_
              refine Mw.pass' hc67 rfl rfl rfl rfl rfl rfl ?_
              refine Mw.p rfl rfl (fun _ => R.pk hc67 rfl (v := vB true) rfl) ?_
              refine Mw.nil ?_
              refine ⟨?_, ⟨true, W65, rfl, (l15.trans (l31.trans (l48.trans l65))), rfl, hm⟩⟩
              iterate 54 (refine Agree.up rfl ?_)
              exact Agree.refl _
            · replace hm := bf hm hc67
              refine Mw.gp hc67 rfl rfl rfl rfl rfl (fun _ => R.mv (v := v0_) rfl) (Mw.gp hc67 rfl rfl rfl rfl rfl (fun _ => R.mv (v := vI y3) rfl) ?_)
              obtain ⟨u68, e69, hm⟩ := ob hm
              refine Mw.gp hc67 rfl rfl rfl rfl rfl (fun _ => R.ix (α := Memo) s19 e69 rfl rfl rfl) (Mw.gp hc67 rfl rfl rfl rfl rfl (fun _ => R.fa rfl) ?_)
              obtain ⟨v70, c71, r72⟩ := (Memo.at3 (s19.at_ e69)).cell rfl
              refine Mw.gq hc67 rfl rfl rfl rfl rfl (fun _ c => R.ld rfl rfl (cl_cell (Memo.at3 (s19.at_ e69)).1 rfl c71 c)) (Mw.gp hc67 rfl rfl rfl rfl rfl (fun _ => R.mv (v := v1_) rfl) (Mw.gp hc67 rfl rfl rfl rfl rfl (fun _ => R.mv (v := vI y3) rfl) ?_))
              obtain ⟨u73, e74, hm⟩ := ob hm
              refine Mw.gp hc67 rfl rfl rfl rfl rfl (fun _ => R.ix (α := Memo) s25 e74 rfl rfl rfl) (Mw.gp hc67 rfl rfl rfl rfl rfl (fun _ => R.fa rfl) ?_)
              obtain ⟨v75, c76, r77⟩ := (Memo.at3 (s25.at_ e74)).cell rfl
              refine Mw.gq hc67 rfl rfl rfl rfl rfl (fun _ c => R.ld rfl rfl (cl_cell (Memo.at3 (s25.at_ e74)).1 rfl c76 c)) ?_
              have s78 := r72.ul (a32.trans (a49.trans a66))
              have s79 := r77.ul (a32.trans (a49.trans a66))
              obtain ⟨z80, e81, hm⟩ := ob hm
              refine Mw.gt hc67 rfl rfl rfl rfl rfl (T.call rfl (p39 (K := [0])  s78 s79 e81)) ?_
              rintro _ _ ⟨W82, rfl, l82, rfl⟩
              have a83 : Le LL _ _ := l82.nil
              refine ⟨⟨_, rfl, ((l31.sub (M := []) rfl).trans ((l48.sub (M := []) rfl).trans ((l65.sub (M := []) rfl).trans (l82.sub (M := []) rfl))))⟩, ?_⟩
              refine Mw.gp hc67 rfl rfl rfl rfl rfl (fun _ => R.not rfl) (Mw.p rfl rfl (fun _ => R.pk hc67 rfl (v := vB (!z80)) rfl) ?_)
              refine Mw.nil ?_
              refine ⟨?_, ⟨(!z80), W82, rfl, (l15.trans (l31.trans (l48.trans (l65.trans l82)))), rfl, hm⟩⟩
              iterate 54 (refine Agree.up rfl ?_)
              exact Agree.refl _
    · replace hm := bf hm hc9
      refine Cw.exit ?_
      rw [hK5] at hm
      refine Cw.seq ?_
      refine Cw.region ?_
      refine Lw.r rfl (R.as (v := vB true) rfl) ?_
      refine Lw.nil ?_
      cases hm
      exact Cw.ret (ret1 rfl (Res.mk a7 rfl))

theorem p20 {W : CW} {K : List Nat} {x0 : List Vm.Memo} {v0_ : Value} {x1 : List Vm.Memo} {v1_ : Value} {r : Bool} (h0 : Rd W K [v0_] x0) (h1 : Rd W K [v1_] x1) (hm : Vm.laws_smMemos x0 x1 = some r) : CallR Try.prog 20 [v0_, v1_].toArray W.w (Res W [] fun W' v => v = vB r) :=
  (c20 (V := W.view K []) (h0.view _) (h1.view _) hm).ad (fk 0) fun _ _ e => e

theorem c4 {V : CW} {x0 : List Byte} {v0_ : Value} {r : Bool} (h0 : Rd V [0] [v0_] x0) (hm : Vm.laws_FnMemoPut x0 = some r) : CallR Try.prog 4 [v0_].toArray V.w (Res V LL fun Wf v => v = vB r) := by
  unfold Vm.laws_FnMemoPut at hm
  obtain ⟨W0, hW0⟩ : ∃ W, W = V := ⟨V, rfl⟩
  subst hW0
  refine CallR.of Try.func4 rfl rfl rfl rfl ?_
  refine Cw.seq ?_
  refine Cw.region ?_
  refine Lw.r rfl (R.as (v := vB false) rfl) ?_
  refine Lw.nil ?_
  refine Cw.seq ?_
  refine Cw.seq ?_
  refine Cw.region ?_
  refine Lw.r rfl (R.mv (v := v0_) rfl) (Lw.r rfl (lenR (xs := x0) h0 rfl) (Lw.r rfl (R.gt rfl rfl) ?_))
  refine Lw.nil ?_
  refine Cw.cond (b := decide ((1048576 : Int) < ((x0.length : Int) : Int))) rfl (fun hc1 => ?_) (fun hc1 => ?_)
  · replace hm := bt hm hc1
    refine Cw.seq ?_
    refine Cw.region ?_
    refine Lw.r rfl (R.as (v := vB true) rfl) ?_
    refine Lw.nil ?_
    cases hm
    exact Cw.ret (ret1 rfl (Res.mk (Le.refl _ _) rfl))
  · replace hm := bf hm hc1
    refine Cw.skip ?_
    refine Cw.seq ?_
    refine Cw.region ?_
    refine Lw.r rfl (R.mv (v := v0_) rfl) ?_
    obtain ⟨z2, e3, hm⟩ := ob hm
    refine Lw.t rfl (T.call rfl (p17 (K := [0]) (k0 := 2) (k1 := 3) (k2 := 4) (k3 := 5) (k4 := 6) h0 e3)) ?_
    rintro _ _ ⟨W4, rfl, l4, ⟨v0_4, v1_0_4, v1_1_4, v1_2_4, v1_3_4, rfl, f4_0, f4_1, f4_2, f4_3, f4_4⟩⟩
    have a5 : Le LL _ _ := l4.nil
    refine Lw.r rfl (R.mv (v := .tuple [v0_4, .agg [v1_0_4, v1_1_4, v1_2_4, v1_3_4].toArray].toArray) rfl) (Lw.r rfl (R.ext (vs := [v0_4, .agg [v1_0_4, v1_1_4, v1_2_4, v1_3_4].toArray]) (v := v0_4) rfl rfl) (Lw.r rfl (R.ext (vs := [v0_4, .agg [v1_0_4, v1_1_4, v1_2_4, v1_3_4].toArray]) (v := .agg [v1_0_4, v1_1_4, v1_2_4, v1_3_4].toArray) rfl rfl) ?_))
    refine Lw.t rfl (T.alloc 7 (cs := [.slice none 0 0, .slice none 0 0, .slice none 0 0, .slice none 0 0]) rfl) ?_
    rintro _ _ ⟨g6, W6, rfl, rfl, l6, b6⟩
    have a7 : Le LL _ _ := l6.nil
    have o8 := f4_0.up l6 rfl
    have o9 := f4_1.up l6 rfl
    have o10 := f4_2.up l6 rfl
    have o11 := f4_3.up l6 rfl
    have o12 := f4_4.up l6 rfl
    refine Lw.r rfl (R.as (v := v0_4) rfl) ?_
    refine Lw.u (T.sta (vs := [v1_0_4, v1_1_4, v1_2_4, v1_3_4]) b6 rfl rfl (oc_cons o9.oc (oc_cons o10.oc (oc_cons o11.oc (oc_cons o12.oc oc_nil)))) rfl rfl) ?_
    rintro _ _ ⟨W13, rfl, l13, b13⟩
    have a14 : Le LL _ _ := l13.sub rfl
    have o15 := o8.up l13 rfl
    have o16 := o9.up l13 rfl
    have o17 := o10.up l13 rfl
    have o18 := o11.up l13 rfl
    have o19 := o12.up l13 rfl
    refine Lw.nil ?_
    refine Cw.seq ?_
    refine Cw.region ?_
    refine Lw.r rfl (R.mv (v := v0_4) rfl) (Lw.r rfl (R.lda (cs := [v1_0_4, v1_1_4, v1_2_4, v1_3_4]) b13.cells rfl rfl) ?_)
    obtain ⟨z20, e21, hm⟩ := ob hm
    refine Lw.t rfl (T.call rfl (p18 (K := [2, 3, 4, 5, 6]) (k0 := 8) (o15.rd.sub (M := [2, 3, 4, 5, 6]) rfl) ((Memo.rd (K := [3, 4, 5, 6]) z2.2.Old z2.2.One z2.2.Two z2.2.Done (o16.rd.sub (M := [3, 4, 5, 6]) rfl) (o17.rd.sub (M := [3, 4, 5, 6]) rfl) (o18.rd.sub (M := [3, 4, 5, 6]) rfl) (o19.rd.sub (M := [3, 4, 5, 6]) rfl)).sub (M := [2, 3, 4, 5, 6]) rfl) e21)) ?_
    rintro _ _ ⟨W22, rfl, l22, ⟨v0_22, rfl, f22_0⟩⟩
    have a23 : Le LL _ _ := l22.nil
    have o24 := o15.up l22 rfl
    have o25 := o16.up l22 rfl
    have o26 := o17.up l22 rfl
    have o27 := o18.up l22 rfl
    have o28 := o19.up l22 rfl
    have b29 := b13.up l22 rfl
    refine Lw.r rfl (R.mv (v := .tuple [v0_22, vB z20.2].toArray) rfl) (Lw.r rfl (R.ext (vs := [v0_22, vB z20.2]) (v := v0_22) rfl rfl) (Lw.r rfl (R.ext (vs := [v0_22, vB z20.2]) (v := vB z20.2) rfl rfl) (Lw.r rfl (R.as (v := v0_22) rfl) (Lw.r rfl (R.as (v := vB z20.2) rfl) ?_))))
    refine Lw.nil ?_
    refine Cw.seq ?_
    refine Cw.region ?_
    refine Lw.r rfl (R.mv (v := v0_4) rfl) (Lw.r rfl (R.lda (cs := [v1_0_4, v1_1_4, v1_2_4, v1_3_4]) b29.cells rfl rfl) ?_)
    obtain ⟨z30, e31, hm⟩ := ob hm
    refine Lw.t rfl (T.call rfl (p19 (K := [2, 3, 4, 5, 6]) (k0 := 9) (o24.rd.sub (M := [2, 3, 4, 5, 6]) rfl) ((Memo.rd (K := [3, 4, 5, 6]) z2.2.Old z2.2.One z2.2.Two z2.2.Done (o25.rd.sub (M := [3, 4, 5, 6]) rfl) (o26.rd.sub (M := [3, 4, 5, 6]) rfl) (o27.rd.sub (M := [3, 4, 5, 6]) rfl) (o28.rd.sub (M := [3, 4, 5, 6]) rfl)).sub (M := [2, 3, 4, 5, 6]) rfl) e31)) ?_
    rintro _ _ ⟨W32, rfl, l32, ⟨v0_32, rfl, f32_0⟩⟩
    have a33 : Le LL _ _ := l32.nil
    have o34 := o24.up l32 rfl
    have o35 := o25.up l32 rfl
    have o36 := o26.up l32 rfl
    have o37 := o27.up l32 rfl
    have o38 := o28.up l32 rfl
    have o39 := f22_0.up l32 rfl
    have b40 := b29.up l32 rfl
    refine Lw.r rfl (R.mv (v := .tuple [v0_32, vB z30.2].toArray) rfl) (Lw.r rfl (R.ext (vs := [v0_32, vB z30.2]) (v := v0_32) rfl rfl) (Lw.r rfl (R.ext (vs := [v0_32, vB z30.2]) (v := vB z30.2) rfl rfl) (Lw.r rfl (R.as (v := v0_32) rfl) (Lw.r rfl (R.as (v := vB z30.2) rfl) ?_))))
    refine Lw.nil ?_
    refine Cw.seq ?_
    obtain ⟨K43, hK43, hm⟩ := jn_e hm
    refine Cw.join 34 54 [54] (fun l w => ∃ (y41 : Bool) (W42 : CW), W42.w = w ∧ Le [] W32 W42 ∧ l = [vB y41] ∧ K43 y41 = some r) ?_ ?_
    · rintro _ _ σ ⟨y41, W42, rfl, l42, rfl, hm⟩
      rw [hK43] at hm
      have a44 : Le LL _ _ := l42.nil
      have o45 := o34.up l42 rfl
      have o46 := o35.up l42 rfl
      have o47 := o36.up l42 rfl
      have o48 := o37.up l42 rfl
      have o49 := o38.up l42 rfl
      have o50 := o39.up l42 rfl
      have o51 := f32_0.up l42 rfl
      have b52 := b40.up l42 rfl
      refine Cw.cond (b := y41) rfl (fun hc53 => ?_) (fun hc53 => ?_)
      · replace hm := bt hm hc53
        obtain ⟨K56, hK56, hm⟩ := jn_e hm
        refine Cw.join 55 69 [2] (fun l w => ∃ (y54 : Bool) (W55 : CW), W55.w = w ∧ Le [] W42 W55 ∧ l = [vB y54] ∧ K56 y54 = some r) ?_ ?_
        · rintro _ _ σ ⟨y54, W55, rfl, l55, rfl, hm⟩
          rw [hK56] at hm
          have a57 : Le LL _ _ := l55.nil
          have o58 := o45.up l55 rfl
          have o59 := o46.up l55 rfl
          have o60 := o47.up l55 rfl
          have o61 := o48.up l55 rfl
          have o62 := o49.up l55 rfl
          have o63 := o50.up l55 rfl
          have o64 := o51.up l55 rfl
          have b65 := b52.up l55 rfl
          cases hm
          exact Cw.ret (ret1 rfl (Res.mk (a5.trans (a7.trans (a14.trans (a23.trans (a33.trans (a44.trans a57)))))) rfl))
        · refine Cw.region ?_
          refine Lw.r rfl (R.mv (v := vB z20.2) rfl) (Lw.r rfl (R.mv (v := vB z30.2) rfl) (Lw.r rfl (R.beq rfl rfl) (Lw.r rfl (R.mv (v := vB (z20.2 == z30.2)) rfl) ?_)))
          refine bsplit (z20.2 == z30.2) (fun hc66 => ?_) (fun hc66 => ?_)
          · replace hm := bt hm hc66
            refine Lw.want' hc66 rfl rfl rfl rfl ?_
            refine Lw.r rfl (R.mv (v := v0_22) rfl) ?_
            refine Lw.want' hc66 rfl rfl rfl rfl ?_
            refine Lw.r rfl (R.mv (v := v0_32) rfl) ?_
            refine Lw.want' hc66 rfl rfl rfl rfl ?_
            obtain ⟨z67, e68, hm⟩ := ob hm
            refine Lw.t rfl (T.call rfl (p20 (K := [8, 9])  (o50.rd.sub (M := [8, 9]) rfl) (o51.rd.sub (M := [8, 9]) rfl) e68)) ?_
            rintro _ _ ⟨W69, rfl, l69, rfl⟩
            have a70 : Le LL _ _ := l69.nil
            have o71 := o45.up l69 rfl
            have o72 := o46.up l69 rfl
            have o73 := o47.up l69 rfl
            have o74 := o48.up l69 rfl
            have o75 := o49.up l69 rfl
            have o76 := o50.up l69 rfl
            have o77 := o51.up l69 rfl
            have b78 := b52.up l69 rfl
            refine Lw.r rfl (R.pk hc66 rfl (v := vB z67) rfl) (Lw.r rfl (R.mv (v := vB z67) rfl) ?_)
            refine bsplit z67 (fun hc79 => ?_) (fun hc79 => ?_)
            · replace hm := bt hm hc79
              refine Lw.want' hc79 rfl rfl rfl rfl ?_
              refine Lw.r rfl (R.mv (v := v0_4) rfl) ?_
              refine Lw.want' hc79 rfl rfl rfl rfl ?_
              obtain ⟨z80, e81, hm⟩ := ob hm
              refine Lw.t rfl (T.call rfl (p15 (K := [2])  o71.rd e81)) ?_
              rintro _ _ ⟨W82, rfl, l82, rfl⟩
              have a83 : Le LL _ _ := l82.nil
              have o84 := o71.up l82 rfl
              have o85 := o72.up l82 rfl
              have o86 := o73.up l82 rfl
              have o87 := o74.up l82 rfl
              have o88 := o75.up l82 rfl
              have o89 := o76.up l82 rfl
              have o90 := o77.up l82 rfl
              have b91 := b78.up l82 rfl
              refine Lw.want' hc79 rfl rfl rfl rfl ?_
              refine Lw.r rfl (R.mv (v := v0_4) rfl) ?_
              refine Lw.want' hc79 rfl rfl rfl rfl ?_
              obtain ⟨z92, e93, hm⟩ := ob hm
              refine Lw.t rfl (T.call rfl (p13 (K := [2])  o84.rd e93)) ?_
              rintro _ _ ⟨W94, rfl, l94, rfl⟩
              have a95 : Le LL _ _ := l94.nil
              have o96 := o84.up l94 rfl
              have o97 := o85.up l94 rfl
              have o98 := o86.up l94 rfl
              have o99 := o87.up l94 rfl
              have o100 := o88.up l94 rfl
              have o101 := o89.up l94 rfl
              have o102 := o90.up l94 rfl
              have b103 := b91.up l94 rfl
              refine Lw.want' hc79 rfl rfl rfl rfl ?_
              refine Lw.r rfl (R.beq rfl rfl) (Lw.r rfl (R.pk hc79 rfl (v := vB (z80 == z92)) rfl) (Lw.r rfl (R.as (v := vB (z80 == z92)) rfl) ?_))
              refine Lw.nil ?_
              refine ⟨?_, ⟨(z80 == z92), W94, rfl, (l69.trans (l82.trans l94)), rfl, hm⟩⟩
              iterate 16 (refine Agree.up rfl ?_)
              exact Agree.refl _
            · replace hm := bf hm hc79
              refine Lw.pass' hc79 rfl rfl rfl rfl rfl rfl rfl ?_
              refine Lw.pass' hc79 rfl rfl rfl rfl rfl rfl rfl ?_
              refine Lw.pass' hc79 rfl rfl rfl rfl rfl rfl rfl ?_
              refine Lw.pass' hc79 rfl rfl rfl rfl rfl rfl rfl ?_
              refine Lw.pass' hc79 rfl rfl rfl rfl rfl rfl rfl ?_
              refine Lw.r rfl (R.pk hc79 rfl (v := vB false) rfl) (Lw.r rfl (R.as (v := vB false) rfl) ?_)
              refine Lw.nil ?_
              refine ⟨?_, ⟨false, W69, rfl, l69, rfl, hm⟩⟩
              iterate 16 (refine Agree.up rfl ?_)
              exact Agree.refl _
          · replace hm := bf hm hc66
            refine Lw.pass' hc66 rfl rfl rfl rfl rfl rfl rfl ?_
            refine Lw.pass' hc66 rfl rfl rfl rfl rfl rfl rfl ?_
            refine Lw.pass' hc66 rfl rfl rfl rfl rfl rfl rfl ?_
            refine Lw.r rfl (R.pk hc66 rfl (v := vB false) rfl) (Lw.r rfl (R.mv (v := vB false) rfl) ?_)
            refine Lw.pass' rfl rfl rfl rfl rfl rfl rfl rfl ?_
            refine Lw.pass' rfl rfl rfl rfl rfl rfl rfl rfl ?_
            refine Lw.pass' rfl rfl rfl rfl rfl rfl rfl rfl ?_
            refine Lw.pass' rfl rfl rfl rfl rfl rfl rfl rfl ?_
            refine Lw.pass' rfl rfl rfl rfl rfl rfl rfl rfl ?_
            refine Lw.r rfl (R.pk rfl rfl (v := vB false) rfl) (Lw.r rfl (R.as (v := vB false) rfl) ?_)
            refine Lw.nil ?_
            refine ⟨?_, ⟨false, W42, rfl, Le.refl _ _, rfl, hm⟩⟩
            iterate 16 (refine Agree.up rfl ?_)
            exact Agree.refl _
      · replace hm := bf hm hc53
        refine Cw.skip ?_
        refine Cw.seq ?_
        refine Cw.seq ?_
        refine Cw.region ?_
        refine Lw.r rfl (R.mv (v := vB z20.2) rfl) (Lw.r rfl (R.not rfl) ?_)
        refine Lw.nil ?_
        refine Cw.cond (b := (!z20.2)) rfl (fun hc104 => ?_) (fun hc104 => ?_)
        · replace hm := bt hm hc104
          refine Cw.seq ?_
          refine Cw.region ?_
          refine Lw.r rfl (R.mv (v := v0_22) rfl) (Lw.r rfl (R.mv (v := v0_4) rfl) ?_)
          obtain ⟨z105, e106, hm⟩ := ob hm
          refine Lw.t rfl (T.call rfl (p20 (K := [2, 8])  (o50.rd.sub (M := [2, 8]) rfl) (o45.rd.sub (M := [2, 8]) rfl) e106)) ?_
          rintro _ _ ⟨W107, rfl, l107, rfl⟩
          have a108 : Le LL _ _ := l107.nil
          have o109 := o45.up l107 rfl
          have o110 := o46.up l107 rfl
          have o111 := o47.up l107 rfl
          have o112 := o48.up l107 rfl
          have o113 := o49.up l107 rfl
          have o114 := o50.up l107 rfl
          have o115 := o51.up l107 rfl
          have b116 := b52.up l107 rfl
          refine Lw.r rfl (R.as (v := vB z105) rfl) ?_
          refine Lw.nil ?_
          cases hm
          exact Cw.ret (ret1 rfl (Res.mk (a5.trans (a7.trans (a14.trans (a23.trans (a33.trans (a44.trans a108)))))) rfl))
        · replace hm := bf hm hc104
          refine Cw.skip ?_
          refine Cw.seq ?_
          refine Cw.region ?_
          refine Lw.r rfl (R.mv (v := v0_22) rfl) (Lw.r rfl (R.lda (cs := [v1_0_4, v1_1_4, v1_2_4, v1_3_4]) b52.cells rfl rfl) ?_)
          obtain ⟨z117, e118, hm⟩ := ob hm
          refine Lw.t rfl (T.call rfl (p18 (K := [3, 4, 5, 6, 8]) (k0 := 10) (o50.rd.sub (M := [3, 4, 5, 6, 8]) rfl) ((Memo.rd (K := [3, 4, 5, 6]) z2.2.Old z2.2.One z2.2.Two z2.2.Done (o46.rd.sub (M := [3, 4, 5, 6]) rfl) (o47.rd.sub (M := [3, 4, 5, 6]) rfl) (o48.rd.sub (M := [3, 4, 5, 6]) rfl) (o49.rd.sub (M := [3, 4, 5, 6]) rfl)).sub (M := [3, 4, 5, 6, 8]) rfl) e118)) ?_
          rintro _ _ ⟨W119, rfl, l119, ⟨v0_119, rfl, f119_0⟩⟩
          have a120 : Le LL _ _ := l119.nil
          have o121 := o45.up l119 rfl
          have o122 := o46.up l119 rfl
          have o123 := o47.up l119 rfl
          have o124 := o48.up l119 rfl
          have o125 := o49.up l119 rfl
          have o126 := o50.up l119 rfl
          have o127 := o51.up l119 rfl
          have b128 := b52.up l119 rfl
          refine Lw.r rfl (R.mv (v := .tuple [v0_119, vB z117.2].toArray) rfl) (Lw.r rfl (R.ext (vs := [v0_119, vB z117.2]) (v := v0_119) rfl rfl) (Lw.r rfl (R.ext (vs := [v0_119, vB z117.2]) (v := vB z117.2) rfl rfl) (Lw.r rfl (R.as (v := v0_119) rfl) (Lw.r rfl (R.as (v := vB z117.2) rfl) ?_))))
          refine Lw.nil ?_
          refine Cw.seq ?_
          refine Cw.region ?_
          refine Lw.r rfl (R.fa rfl) (Lw.r rfl (R.ld (v := v1_0_4) rfl rfl (b128.cell rfl)) (Lw.r rfl (R.fa rfl) (Lw.r rfl (R.ld (v := v1_2_4) rfl rfl (b128.cell rfl)) (Lw.r rfl (R.fa rfl) (Lw.r rfl (R.ld (v := v1_1_4) rfl rfl (b128.cell rfl)) (Lw.r rfl (R.fa rfl) (Lw.r rfl (R.ld (v := v1_3_4) rfl rfl (b128.cell rfl)) (Lw.r rfl (R.bd (zs := [.slice none 0 0, .slice none 0 0, .slice none 0 0, .slice none 0 0]) (cs := [v1_0_4, v1_2_4, v1_1_4, v1_3_4]) [(0, v1_0_4), (1, v1_2_4), (2, v1_1_4), (3, v1_3_4)] rfl rfl rfl (bp_cons o122.oc rfl (bp_cons o124.oc rfl (bp_cons o123.oc rfl (bp_cons o125.oc rfl bp_nil))))) ?_))))))))
          refine Lw.t rfl (T.alloc 11 (cs := [.slice none 0 0, .slice none 0 0, .slice none 0 0, .slice none 0 0]) rfl) ?_
          rintro _ _ ⟨g129, W129, rfl, rfl, l129, b129⟩
          have a130 : Le LL _ _ := l129.nil
          have o131 := o121.up l129 rfl
          have o132 := o122.up l129 rfl
          have o133 := o123.up l129 rfl
          have o134 := o124.up l129 rfl
          have o135 := o125.up l129 rfl
          have o136 := o126.up l129 rfl
          have o137 := o127.up l129 rfl
          have o138 := f119_0.up l129 rfl
          have b139 := b128.up l129 rfl
          refine Lw.u (T.sta (vs := [v1_0_4, v1_2_4, v1_1_4, v1_3_4]) b129 rfl rfl (oc_cons o132.oc (oc_cons o134.oc (oc_cons o133.oc (oc_cons o135.oc oc_nil)))) rfl rfl) ?_
          rintro _ _ ⟨W140, rfl, l140, b140⟩
          have a141 : Le LL _ _ := l140.sub rfl
          have o142 := o131.up l140 rfl
          have o143 := o132.up l140 rfl
          have o144 := o133.up l140 rfl
          have o145 := o134.up l140 rfl
          have o146 := o135.up l140 rfl
          have o147 := o136.up l140 rfl
          have o148 := o137.up l140 rfl
          have o149 := o138.up l140 rfl
          have b150 := b139.up l140 rfl
          refine Lw.nil ?_
          refine Cw.seq ?_
          refine Cw.region ?_
          refine Lw.r rfl (R.mv (v := v0_22) rfl) (Lw.r rfl (R.lda (cs := [v1_0_4, v1_2_4, v1_1_4, v1_3_4]) b140.cells rfl rfl) ?_)
          obtain ⟨z151, e152, hm⟩ := ob hm
          refine Lw.t rfl (T.call rfl (p18 (K := [3, 4, 5, 6, 8]) (k0 := 12) (o147.rd.sub (M := [3, 4, 5, 6, 8]) rfl) ((Memo.rd (K := [3, 4, 5, 6]) z2.2.Old z2.2.Two z2.2.One z2.2.Done (o143.rd.sub (M := [3, 4, 5, 6]) rfl) (o145.rd.sub (M := [3, 4, 5, 6]) rfl) (o144.rd.sub (M := [3, 4, 5, 6]) rfl) (o146.rd.sub (M := [3, 4, 5, 6]) rfl)).sub (M := [3, 4, 5, 6, 8]) rfl) e152)) ?_
          rintro _ _ ⟨W153, rfl, l153, ⟨v0_153, rfl, f153_0⟩⟩
          have a154 : Le LL _ _ := l153.nil
          have o155 := o142.up l153 rfl
          have o156 := o143.up l153 rfl
          have o157 := o144.up l153 rfl
          have o158 := o145.up l153 rfl
          have o159 := o146.up l153 rfl
          have o160 := o147.up l153 rfl
          have o161 := o148.up l153 rfl
          have o162 := o149.up l153 rfl
          have b163 := b150.up l153 rfl
          have b164 := b140.up l153 rfl
          refine Lw.r rfl (R.mv (v := .tuple [v0_153, vB z151.2].toArray) rfl) (Lw.r rfl (R.ext (vs := [v0_153, vB z151.2]) (v := v0_153) rfl rfl) (Lw.r rfl (R.ext (vs := [v0_153, vB z151.2]) (v := vB z151.2) rfl rfl) (Lw.r rfl (R.as (v := v0_153) rfl) (Lw.r rfl (R.as (v := vB z151.2) rfl) ?_))))
          refine Lw.nil ?_
          obtain ⟨K167, hK167, hm⟩ := jn_e hm
          refine Cw.join 96 115 [2] (fun l w => ∃ (y165 : Bool) (W166 : CW), W166.w = w ∧ Le [] W153 W166 ∧ l = [vB y165] ∧ K167 y165 = some r) ?_ ?_
          · rintro _ _ σ ⟨y165, W166, rfl, l166, rfl, hm⟩
            rw [hK167] at hm
            have a168 : Le LL _ _ := l166.nil
            have o169 := o155.up l166 rfl
            have o170 := o156.up l166 rfl
            have o171 := o157.up l166 rfl
            have o172 := o158.up l166 rfl
            have o173 := o159.up l166 rfl
            have o174 := o160.up l166 rfl
            have o175 := o161.up l166 rfl
            have o176 := o162.up l166 rfl
            have o177 := f153_0.up l166 rfl
            have b178 := b163.up l166 rfl
            have b179 := b164.up l166 rfl
            cases hm
            exact Cw.ret (ret1 rfl (Res.mk (a5.trans (a7.trans (a14.trans (a23.trans (a33.trans (a44.trans (a120.trans (a130.trans (a141.trans (a154.trans a168)))))))))) rfl))
          · refine Cw.region ?_
            refine Lw.r rfl (R.mv (v := v0_22) rfl) ?_
            obtain ⟨z180, e181, hm⟩ := ob hm
            refine Lw.t rfl (T.call rfl (p15 (K := [8])  o160.rd e181)) ?_
            rintro _ _ ⟨W182, rfl, l182, rfl⟩
            have a183 : Le LL _ _ := l182.nil
            have o184 := o155.up l182 rfl
            have o185 := o156.up l182 rfl
            have o186 := o157.up l182 rfl
            have o187 := o158.up l182 rfl
            have o188 := o159.up l182 rfl
            have o189 := o160.up l182 rfl
            have o190 := o161.up l182 rfl
            have o191 := o162.up l182 rfl
            have o192 := f153_0.up l182 rfl
            have b193 := b163.up l182 rfl
            have b194 := b164.up l182 rfl
            refine Lw.r rfl (R.mv (v := vB z180) rfl) ?_
            refine bsplit z180 (fun hc195 => ?_) (fun hc195 => ?_)
            · replace hm := bt hm hc195
              refine Lw.want' hc195 rfl rfl rfl rfl ?_
              refine Lw.r rfl (R.mv (v := vB z117.2) rfl) (Lw.r rfl (R.pk hc195 rfl (v := vB z117.2) rfl) (Lw.r rfl (R.mv (v := vB z117.2) rfl) ?_))
              refine bsplit z117.2 (fun hc196 => ?_) (fun hc196 => ?_)
              · replace hm := bt hm hc196
                refine Lw.want' hc196 rfl rfl rfl rfl ?_
                refine Lw.r rfl (R.mv (v := v0_119) rfl) ?_
                refine Lw.want' hc196 rfl rfl rfl rfl ?_
                refine Lw.r rfl (R.mv (v := v0_22) rfl) ?_
                refine Lw.want' hc196 rfl rfl rfl rfl ?_
                obtain ⟨z197, e198, hm⟩ := ob hm
                refine Lw.t rfl (T.call rfl (p20 (K := [8, 10])  (o191.rd.sub (M := [8, 10]) rfl) (o189.rd.sub (M := [8, 10]) rfl) e198)) ?_
                rintro _ _ ⟨W199, rfl, l199, rfl⟩
                have a200 : Le LL _ _ := l199.nil
                have o201 := o184.up l199 rfl
                have o202 := o185.up l199 rfl
                have o203 := o186.up l199 rfl
                have o204 := o187.up l199 rfl
                have o205 := o188.up l199 rfl
                have o206 := o189.up l199 rfl
                have o207 := o190.up l199 rfl
                have o208 := o191.up l199 rfl
                have o209 := o192.up l199 rfl
                have b210 := b193.up l199 rfl
                have b211 := b194.up l199 rfl
                refine Lw.r rfl (R.pk hc196 rfl (v := vB z197) rfl) (Lw.r rfl (R.mv (v := vB z197) rfl) ?_)
                refine bsplit z197 (fun hc212 => ?_) (fun hc212 => ?_)
                · replace hm := bt hm hc212
                  refine Lw.want' hc212 rfl rfl rfl rfl ?_
                  refine Lw.r rfl (R.mv (v := vB z151.2) rfl) (Lw.r rfl (R.pk hc212 rfl (v := vB z151.2) rfl) (Lw.r rfl (R.mv (v := vB z151.2) rfl) ?_))
                  refine bsplit z151.2 (fun hc213 => ?_) (fun hc213 => ?_)
                  · replace hm := bt hm hc213
                    refine Lw.want' hc213 rfl rfl rfl rfl ?_
                    refine Lw.r rfl (R.mv (v := v0_153) rfl) ?_
                    refine Lw.want' hc213 rfl rfl rfl rfl ?_
                    refine Lw.r rfl (lenR (xs := z151.1) o209.rd rfl) ?_
                    refine Lw.want' hc213 rfl rfl rfl rfl ?_
                    refine Lw.r rfl (R.mv (v := v0_22) rfl) ?_
                    refine Lw.want' hc213 rfl rfl rfl rfl ?_
                    refine Lw.r rfl (lenR (xs := z20.1) o206.rd rfl) ?_
                    refine Lw.want' hc213 rfl rfl rfl rfl ?_
                    refine Lw.r rfl (R.eq rfl rfl) (Lw.r rfl (R.pk hc213 rfl (v := vB (((z151.1.length : Int) : Int) == ((z20.1.length : Int) : Int))) rfl) (Lw.r rfl (R.as (v := vB (((z151.1.length : Int) : Int) == ((z20.1.length : Int) : Int))) rfl) ?_))
                    refine Lw.nil ?_
                    refine ⟨?_, ⟨(((z151.1.length : Int) : Int) == ((z20.1.length : Int) : Int)), W199, rfl, (l182.trans l199), rfl, hm⟩⟩
                    iterate 21 (refine Agree.up rfl ?_)
                    exact Agree.refl _
                  · replace hm := bf hm hc213
                    refine Lw.pass' hc213 rfl rfl rfl rfl rfl rfl rfl ?_
                    refine Lw.pass' hc213 rfl rfl rfl rfl rfl rfl rfl ?_
                    refine Lw.pass' hc213 rfl rfl rfl rfl rfl rfl rfl ?_
                    refine Lw.pass' hc213 rfl rfl rfl rfl rfl rfl rfl ?_
                    refine Lw.pass' hc213 rfl rfl rfl rfl rfl rfl rfl ?_
                    refine Lw.r rfl (R.pk hc213 rfl (v := vB false) rfl) (Lw.r rfl (R.as (v := vB false) rfl) ?_)
                    refine Lw.nil ?_
                    refine ⟨?_, ⟨false, W199, rfl, (l182.trans l199), rfl, hm⟩⟩
                    iterate 21 (refine Agree.up rfl ?_)
                    exact Agree.refl _
                · replace hm := bf hm hc212
                  refine Lw.pass' hc212 rfl rfl rfl rfl rfl rfl rfl ?_
                  refine Lw.r rfl (R.pk hc212 rfl (v := vB false) rfl) (Lw.r rfl (R.mv (v := vB false) rfl) ?_)
                  refine Lw.pass' rfl rfl rfl rfl rfl rfl rfl rfl ?_
                  refine Lw.pass' rfl rfl rfl rfl rfl rfl rfl rfl ?_
                  refine Lw.pass' rfl rfl rfl rfl rfl rfl rfl rfl ?_
                  refine Lw.pass' rfl rfl rfl rfl rfl rfl rfl rfl ?_
                  refine Lw.pass' rfl rfl rfl rfl rfl rfl rfl rfl ?_
                  refine Lw.r rfl (R.pk rfl rfl (v := vB false) rfl) (Lw.r rfl (R.as (v := vB false) rfl) ?_)
                  refine Lw.nil ?_
                  refine ⟨?_, ⟨false, W199, rfl, (l182.trans l199), rfl, hm⟩⟩
                  iterate 21 (refine Agree.up rfl ?_)
                  exact Agree.refl _
              · replace hm := bf hm hc196
                refine Lw.pass' hc196 rfl rfl rfl rfl rfl rfl rfl ?_
                refine Lw.pass' hc196 rfl rfl rfl rfl rfl rfl rfl ?_
                refine Lw.pass' hc196 rfl rfl rfl rfl rfl rfl rfl ?_
                refine Lw.r rfl (R.pk hc196 rfl (v := vB false) rfl) (Lw.r rfl (R.mv (v := vB false) rfl) ?_)
                refine Lw.pass' rfl rfl rfl rfl rfl rfl rfl rfl ?_
                refine Lw.r rfl (R.pk rfl rfl (v := vB false) rfl) (Lw.r rfl (R.mv (v := vB false) rfl) ?_)
                refine Lw.pass' rfl rfl rfl rfl rfl rfl rfl rfl ?_
                refine Lw.pass' rfl rfl rfl rfl rfl rfl rfl rfl ?_
                refine Lw.pass' rfl rfl rfl rfl rfl rfl rfl rfl ?_
                refine Lw.pass' rfl rfl rfl rfl rfl rfl rfl rfl ?_
                refine Lw.pass' rfl rfl rfl rfl rfl rfl rfl rfl ?_
                refine Lw.r rfl (R.pk rfl rfl (v := vB false) rfl) (Lw.r rfl (R.as (v := vB false) rfl) ?_)
                refine Lw.nil ?_
                refine ⟨?_, ⟨false, W182, rfl, l182, rfl, hm⟩⟩
                iterate 21 (refine Agree.up rfl ?_)
                exact Agree.refl _
            · replace hm := bf hm hc195
              refine Lw.pass' hc195 rfl rfl rfl rfl rfl rfl rfl ?_
              refine Lw.r rfl (R.pk hc195 rfl (v := vB false) rfl) (Lw.r rfl (R.mv (v := vB false) rfl) ?_)
              refine Lw.pass' rfl rfl rfl rfl rfl rfl rfl rfl ?_
              refine Lw.pass' rfl rfl rfl rfl rfl rfl rfl rfl ?_
              refine Lw.pass' rfl rfl rfl rfl rfl rfl rfl rfl ?_
              refine Lw.r rfl (R.pk rfl rfl (v := vB false) rfl) (Lw.r rfl (R.mv (v := vB false) rfl) ?_)
              refine Lw.pass' rfl rfl rfl rfl rfl rfl rfl rfl ?_
              refine Lw.r rfl (R.pk rfl rfl (v := vB false) rfl) (Lw.r rfl (R.mv (v := vB false) rfl) ?_)
              refine Lw.pass' rfl rfl rfl rfl rfl rfl rfl rfl ?_
              refine Lw.pass' rfl rfl rfl rfl rfl rfl rfl rfl ?_
              refine Lw.pass' rfl rfl rfl rfl rfl rfl rfl rfl ?_
              refine Lw.pass' rfl rfl rfl rfl rfl rfl rfl rfl ?_
              refine Lw.pass' rfl rfl rfl rfl rfl rfl rfl rfl ?_
              refine Lw.r rfl (R.pk rfl rfl (v := vB false) rfl) (Lw.r rfl (R.as (v := vB false) rfl) ?_)
              refine Lw.nil ?_
              refine ⟨?_, ⟨false, W182, rfl, l182, rfl, hm⟩⟩
              iterate 21 (refine Agree.up rfl ?_)
              exact Agree.refl _
    · refine Cw.region ?_
      refine Lw.r rfl (R.mv (v := vB z20.2) rfl) (Lw.r rfl (R.mv (v := vB z30.2) rfl) (Lw.r rfl (R.bne rfl rfl) (Lw.r rfl (R.mv (v := vB (z20.2 != z30.2)) rfl) ?_)))
      refine bsplit (z20.2 != z30.2) (fun hc214 => ?_) (fun hc214 => ?_)
      · replace hm := bt hm hc214
        refine Lw.pass' hc214 rfl rfl rfl rfl rfl rfl rfl ?_
        refine Lw.pass' hc214 rfl rfl rfl rfl rfl rfl rfl ?_
        refine Lw.pass' hc214 rfl rfl rfl rfl rfl rfl rfl ?_
        refine Lw.pass' hc214 rfl rfl rfl rfl rfl rfl rfl ?_
        refine Lw.r rfl (R.pk hc214 rfl (v := vB true) rfl) (Lw.r rfl (R.mv (v := vB true) rfl) ?_)
        refine Lw.pass' rfl rfl rfl rfl rfl rfl rfl rfl ?_
        refine Lw.pass' rfl rfl rfl rfl rfl rfl rfl rfl ?_
        refine Lw.pass' rfl rfl rfl rfl rfl rfl rfl rfl ?_
        refine Lw.pass' rfl rfl rfl rfl rfl rfl rfl rfl ?_
        refine Lw.pass' rfl rfl rfl rfl rfl rfl rfl rfl ?_
        refine Lw.r rfl (R.pk rfl rfl (v := vB true) rfl) (Lw.r rfl (R.mv (v := vB true) rfl) ?_)
        refine Lw.pass' rfl rfl rfl rfl rfl rfl rfl rfl ?_
        refine Lw.pass' rfl rfl rfl rfl rfl rfl rfl rfl ?_
        refine Lw.pass' rfl rfl rfl rfl rfl rfl rfl rfl ?_
        refine Lw.r rfl (R.pk rfl rfl (v := vB true) rfl) ?_
        refine Lw.nil ?_
        refine ⟨?_, ⟨true, W32, rfl, Le.refl _ _, rfl, hm⟩⟩
        iterate 21 (refine Agree.up rfl ?_)
        exact Agree.refl _
      · replace hm := bf hm hc214
        refine Lw.want' hc214 rfl rfl rfl rfl ?_
        refine Lw.r rfl (R.mv (v := v0_22) rfl) ?_
        refine Lw.want' hc214 rfl rfl rfl rfl ?_
        refine Lw.r rfl (R.mv (v := v0_32) rfl) ?_
        refine Lw.want' hc214 rfl rfl rfl rfl ?_
        obtain ⟨z215, e216, hm⟩ := ob hm
        refine Lw.t rfl (T.call rfl (p20 (K := [8, 9])  (o39.rd.sub (M := [8, 9]) rfl) (f32_0.rd.sub (M := [8, 9]) rfl) e216)) ?_
        rintro _ _ ⟨W217, rfl, l217, rfl⟩
        have a218 : Le LL _ _ := l217.nil
        have o219 := o34.up l217 rfl
        have o220 := o35.up l217 rfl
        have o221 := o36.up l217 rfl
        have o222 := o37.up l217 rfl
        have o223 := o38.up l217 rfl
        have o224 := o39.up l217 rfl
        have o225 := f32_0.up l217 rfl
        have b226 := b40.up l217 rfl
        refine Lw.want' hc214 rfl rfl rfl rfl ?_
        refine Lw.r rfl (R.not rfl) (Lw.r rfl (R.pk hc214 rfl (v := vB (!z215)) rfl) (Lw.r rfl (R.mv (v := vB (!z215)) rfl) ?_))
        refine bsplit (!z215) (fun hc227 => ?_) (fun hc227 => ?_)
        · replace hm := bt hm hc227
          refine Lw.pass' hc227 rfl rfl rfl rfl rfl rfl rfl ?_
          refine Lw.pass' hc227 rfl rfl rfl rfl rfl rfl rfl ?_
          refine Lw.pass' hc227 rfl rfl rfl rfl rfl rfl rfl ?_
          refine Lw.pass' hc227 rfl rfl rfl rfl rfl rfl rfl ?_
          refine Lw.pass' hc227 rfl rfl rfl rfl rfl rfl rfl ?_
          refine Lw.r rfl (R.pk hc227 rfl (v := vB true) rfl) (Lw.r rfl (R.mv (v := vB true) rfl) ?_)
          refine Lw.pass' rfl rfl rfl rfl rfl rfl rfl rfl ?_
          refine Lw.pass' rfl rfl rfl rfl rfl rfl rfl rfl ?_
          refine Lw.pass' rfl rfl rfl rfl rfl rfl rfl rfl ?_
          refine Lw.r rfl (R.pk rfl rfl (v := vB true) rfl) ?_
          refine Lw.nil ?_
          refine ⟨?_, ⟨true, W217, rfl, l217, rfl, hm⟩⟩
          iterate 21 (refine Agree.up rfl ?_)
          exact Agree.refl _
        · replace hm := bf hm hc227
          refine Lw.want' hc227 rfl rfl rfl rfl ?_
          refine Lw.r rfl (R.mv (v := v0_4) rfl) ?_
          refine Lw.want' hc227 rfl rfl rfl rfl ?_
          obtain ⟨z228, e229, hm⟩ := ob hm
          refine Lw.t rfl (T.call rfl (p15 (K := [2])  o219.rd e229)) ?_
          rintro _ _ ⟨W230, rfl, l230, rfl⟩
          have a231 : Le LL _ _ := l230.nil
          have o232 := o219.up l230 rfl
          have o233 := o220.up l230 rfl
          have o234 := o221.up l230 rfl
          have o235 := o222.up l230 rfl
          have o236 := o223.up l230 rfl
          have o237 := o224.up l230 rfl
          have o238 := o225.up l230 rfl
          have b239 := b226.up l230 rfl
          refine Lw.want' hc227 rfl rfl rfl rfl ?_
          refine Lw.r rfl (R.mv (v := v0_4) rfl) ?_
          refine Lw.want' hc227 rfl rfl rfl rfl ?_
          obtain ⟨z240, e241, hm⟩ := ob hm
          refine Lw.t rfl (T.call rfl (p13 (K := [2])  o232.rd e241)) ?_
          rintro _ _ ⟨W242, rfl, l242, rfl⟩
          have a243 : Le LL _ _ := l242.nil
          have o244 := o232.up l242 rfl
          have o245 := o233.up l242 rfl
          have o246 := o234.up l242 rfl
          have o247 := o235.up l242 rfl
          have o248 := o236.up l242 rfl
          have o249 := o237.up l242 rfl
          have o250 := o238.up l242 rfl
          have b251 := b239.up l242 rfl
          refine Lw.want' hc227 rfl rfl rfl rfl ?_
          refine Lw.r rfl (R.bne rfl rfl) (Lw.r rfl (R.pk hc227 rfl (v := vB (z228 != z240)) rfl) (Lw.r rfl (R.mv (v := vB (z228 != z240)) rfl) ?_))
          refine bsplit (z228 != z240) (fun hc252 => ?_) (fun hc252 => ?_)
          · replace hm := bt hm hc252
            refine Lw.pass' hc252 rfl rfl rfl rfl rfl rfl rfl ?_
            refine Lw.pass' hc252 rfl rfl rfl rfl rfl rfl rfl ?_
            refine Lw.pass' hc252 rfl rfl rfl rfl rfl rfl rfl ?_
            refine Lw.r rfl (R.pk hc252 rfl (v := vB true) rfl) ?_
            refine Lw.nil ?_
            refine ⟨?_, ⟨true, W242, rfl, (l217.trans (l230.trans l242)), rfl, hm⟩⟩
            iterate 21 (refine Agree.up rfl ?_)
            exact Agree.refl _
          · replace hm := bf hm hc252
            refine Lw.want' hc252 rfl rfl rfl rfl ?_
            refine Lw.r rfl (R.mv (v := v0_4) rfl) ?_
            refine Lw.want' hc252 rfl rfl rfl rfl ?_
            obtain ⟨z253, e254, hm⟩ := ob hm
            refine Lw.t rfl (T.call rfl (p15 (K := [2])  o244.rd e254)) ?_
            rintro _ _ ⟨W255, rfl, l255, rfl⟩
            have a256 : Le LL _ _ := l255.nil
            have o257 := o244.up l255 rfl
            have o258 := o245.up l255 rfl
            have o259 := o246.up l255 rfl
            have o260 := o247.up l255 rfl
            have o261 := o248.up l255 rfl
            have o262 := o249.up l255 rfl
            have o263 := o250.up l255 rfl
            have b264 := b251.up l255 rfl
            refine Lw.want' hc252 rfl rfl rfl rfl ?_
            refine Lw.r rfl (R.not rfl) (Lw.r rfl (R.pk hc252 rfl (v := vB (!z253)) rfl) ?_)
            refine Lw.nil ?_
            refine ⟨?_, ⟨(!z253), W255, rfl, (l217.trans (l230.trans (l242.trans l255))), rfl, hm⟩⟩
            iterate 21 (refine Agree.up rfl ?_)
            exact Agree.refl _

theorem p4 {W : CW} {K : List Nat} {x0 : List Byte} {v0_ : Value} {r : Bool} (h0 : Rd W K [v0_] x0) (hm : Vm.laws_FnMemoPut x0 = some r) : CallR Try.prog 4 [v0_].toArray W.w (Res W [] fun W' v => v = vB r) :=
  (c4 (V := W.view K []) (h0.view _) hm).ad (fk 0) fun _ _ e => e

theorem c76 {V : CW} {x0 : Int} {r : Str}  (hm : Vm.laws_markText x0 = some r) : CallR Try.prog 76 [vI x0].toArray V.w (Res V LL fun Wf v => v = vS r) := by
  unfold Vm.laws_markText at hm
  obtain ⟨W0, hW0⟩ : ∃ W, W = V := ⟨V, rfl⟩
  subst hW0
  refine CallR.of Try.func76 rfl rfl rfl rfl ?_
  refine Cw.seq ?_
  refine Cw.region ?_
  refine Lw.r rfl (R.as (v := vS ([] : Str)) rfl) ?_
  refine Lw.nil ?_
  refine Cw.seq ?_
  refine Cw.seq ?_
  refine Cw.region ?_
  refine Lw.r rfl (R.mv (v := vI x0) rfl) (Lw.r rfl (R.le rfl rfl) ?_)
  refine Lw.nil ?_
  refine Cw.cond (b := decide ((x0 : Int) ≤ (0 : Int))) rfl (fun hc1 => ?_) (fun hc1 => ?_)
  · replace hm := bt hm hc1
    refine Cw.seq ?_
    refine Cw.region ?_
    refine Lw.r rfl (R.as (v := vS ([109, 48] : Str)) rfl) ?_
    refine Lw.nil ?_
    cases hm
    exact Cw.ret (ret1 rfl (Res.mk (Le.refl _ _) rfl))
  · replace hm := bf hm hc1
    refine Cw.skip ?_
    refine Cw.seq ?_
    refine Cw.region ?_
    refine Lw.r rfl (R.as (v := vS ([] : Str)) rfl) ?_
    refine Lw.nil ?_
    refine Cw.seq ?_
    refine Cw.block ?_
    obtain ⟨K5, hK5, hm⟩ := jn_e hm
    refine Cw.loop 6 17 [0, 3] (fun m l w => ∃ (y2 : Int) (y3 : Str) (W4 : CW), W4.w = w ∧ Le [] W0 W4 ∧ l = [vI y2, vS y3] ∧ Vm.laws_markText_l1 K5 m y2 y3 = some r) ((x0 - 0).toNat + 1) ⟨x0, ([] : Str), W0, rfl, Le.refl _ _, rfl, hm⟩ ?_
    rintro m6 _ _ σ ⟨y2, y3, W4, rfl, l4, rfl, hm⟩
    obtain _ | m6 := m6
    · cases hm
    unfold Vm.laws_markText_l1 at hm
    have a7 : Le LL _ _ := l4.nil
    refine Cw.seq ?_
    refine Cw.seq ?_
    refine Cw.region ?_
    refine Lw.r rfl (R.mv (v := vI y2) rfl) (Lw.r rfl (R.gt rfl rfl) ?_)
    refine Lw.nil ?_
    refine Cw.cond (b := decide ((0 : Int) < (y2 : Int))) rfl (fun hc8 => ?_) (fun hc8 => ?_)
    · replace hm := bt hm hc8
      refine Cw.skip ?_
      refine Cw.block ?_
      refine Cw.seq ?_
      refine Cw.region ?_
      refine Lw.r rfl (R.mv (v := vI y2) rfl) (Lw.r rfl (R.rem rfl rfl (by decide)) (Lw.r rfl (R.add rfl rfl) (Lw.r rfl (R.cv8 rfl rfl) ?_)))
      refine Lw.t rfl (T.bsS (α := Byte) (xs := [(by8 (w64 (48 + (Int.tmod y2 10))))]) 2 [] (W := W4) [.int .u8 (UInt8.toNat (by8 (w64 (48 + (Int.tmod y2 10)))) : Int)] (Each.cons ((rdY _)) Each.nil) rfl) ?_
      rintro v9 _ ⟨W9, rfl, l9, o9⟩
      have a10 : Le LL _ _ := l9.nil
      refine Lw.r rfl (R.cvB (xs := ([(by8 (w64 (48 + (Int.tmod y2 10))))] : List Byte)) o9.rd rfl (fun h => h.1)) (Lw.r rfl (R.mv (v := vS y3) rfl) ?_)
      obtain ⟨q11, e12, hm⟩ := ob hm
      refine Lw.r rfl (R.sad e12 rfl rfl) (Lw.r rfl (R.as (v := vS q11) rfl) ?_)
      refine Lw.nil ?_
      refine Cw.region ?_
      refine Lw.r rfl (R.mv (v := vI y2) rfl) (Lw.r rfl (R.quo rfl rfl (by decide)) (Lw.r rfl (R.as (v := vI (w64 (Int.tdiv y2 10))) rfl) ?_))
      refine Lw.nil ?_
      refine ⟨?_, m6, Nat.lt_succ_self m6, ⟨w64 (Int.tdiv y2 10), q11, W9, rfl, (l4.trans l9), rfl, hm⟩⟩
      iterate 14 (refine Agree.up rfl ?_)
      iterate 2 (refine Agree.up rfl ?_)
      exact Agree.base
    · replace hm := bf hm hc8
      refine Cw.exit ?_
      rw [hK5] at hm
      refine Cw.seq ?_
      refine Cw.region ?_
      refine Lw.r rfl (R.mv (v := vS y3) rfl) ?_
      obtain ⟨q13, e14, hm⟩ := ob hm
      refine Lw.r rfl (R.sad e14 rfl rfl) (Lw.r rfl (R.as (v := vS q13) rfl) ?_)
      refine Lw.nil ?_
      cases hm
      exact Cw.ret (ret1 rfl (Res.mk a7 rfl))

theorem p76 {W : CW} {K : List Nat} {x0 : Int} {r : Str}  (hm : Vm.laws_markText x0 = some r) : CallR Try.prog 76 [vI x0].toArray W.w (Res W [] fun W' v => v = vS r) :=
  (c76 (V := W.view K [])  hm).ad (fk 0) fun _ _ e => e

theorem c41 {V : CW} {x0 : List Str} {v0_ : Value} {x1 : Int} {r : Int × (List Str)} (h0 : Ow V 2 [] [v0_] x0) (hm : Vm.laws_markStringS x0 x1 = some r) : CallR Try.prog 41 [v0_, vI x1].toArray V.w (Res V LL fun Wf v => v = vI r.1 ∧ Ow Wf 2 [] [v0_] r.2) := by
  unfold Vm.laws_markStringS at hm
  obtain ⟨W0, hW0⟩ : ∃ W, W = V := ⟨V, rfl⟩
  subst hW0
  refine CallR.of Try.func41 rfl rfl rfl rfl ?_
  refine Cw.seq ?_
  refine Cw.region ?_
  refine Lw.r rfl (R.as (v := vI 0) rfl) ?_
  refine Lw.nil ?_
  refine Cw.seq ?_
  refine Cw.seq ?_
  refine Cw.region ?_
  refine Lw.r rfl (R.as (v := vI 0) rfl) ?_
  refine Lw.nil ?_
  refine Cw.block ?_
  obtain ⟨K6, hK6, hm⟩ := jn_e hm
  refine Cw.loop 6 18 [1, 5] (fun m l w => ∃ (y1 : Int) (y2 : Int) (y3 : List Str) (W5 : CW), W5.w = w ∧ Le [2] W0 W5 ∧ l = [vI y1, vI y2] ∧ Ow W5 2 [] [v0_] y3 ∧ Vm.laws_markStringS_l1 K6 m y1 y2 y3 = some r) (((x0.length : Int) - 0).toNat + 1) ⟨x1, 0, x0, W0, rfl, Le.refl _ _, rfl, h0, hm⟩ ?_
  rintro m7 _ _ σ ⟨y1, y2, y3, W5, rfl, l5, rfl, o4, hm⟩
  obtain _ | m7 := m7
  · cases hm
  unfold Vm.laws_markStringS_l1 at hm
  have a8 : Le LL _ _ := l5.sub rfl
  refine Cw.seq ?_
  refine Cw.seq ?_
  refine Cw.region ?_
  refine Lw.r rfl (R.mv (v := vI y2) rfl) (Lw.r rfl (R.mv (v := v0_) rfl) (Lw.r rfl (lenR (xs := y3) o4.rd rfl) (Lw.r rfl (R.lt rfl rfl) ?_)))
  refine Lw.nil ?_
  refine Cw.cond (b := decide ((y2 : Int) < ((y3.length : Int) : Int))) rfl (fun hc9 => ?_) (fun hc9 => ?_)
  · replace hm := bt hm hc9
    refine Cw.skip ?_
    refine Cw.seq ?_
    refine Cw.block ?_
    refine Cw.seq ?_
    refine Cw.region ?_
    refine Lw.r rfl (R.mv (v := v0_) rfl) (Lw.r rfl (R.mv (v := vI y2) rfl) (Lw.r rfl (R.mv (v := vI y1) rfl) ?_))
    obtain ⟨z10, e11, hm⟩ := ob hm
    refine Lw.t rfl (T.call rfl (p76 (K := [0])   e11)) ?_
    rintro _ _ ⟨W12, rfl, l12, rfl⟩
    have a13 : Le LL _ _ := l12.nil
    have o14 := o4.up l12 rfl
    obtain ⟨u15, e16, hm⟩ := ob hm
    refine Lw.r rfl (R.ix (α := Str) o14.rd e16 rfl rfl rfl) ?_
    obtain ⟨q18, e19, hm⟩ := ob hm
    refine Lw.u (T.stS (K' := []) o14 (rdS _) e19 rfl rfl rfl) ?_
    rintro _ _ ⟨W17, rfl, l17, o17⟩
    have a20 : Le LL _ _ := l17.sub rfl
    refine Lw.nil ?_
    refine Cw.region ?_
    refine Lw.r rfl (R.mv (v := vI y1) rfl) (Lw.r rfl (R.add rfl rfl) (Lw.r rfl (R.as (v := vI (w64 (y1 + 1))) rfl) ?_))
    refine Lw.nil ?_
    refine Cw.region ?_
    refine Lw.r rfl (R.mv (v := vI y2) rfl) (Lw.r rfl (R.add rfl rfl) (Lw.r rfl (R.as (v := vI (w64 (y2 + 1))) rfl) ?_))
    refine Lw.nil ?_
    refine ⟨?_, m7, Nat.lt_succ_self m7, ⟨w64 (y1 + 1), w64 (y2 + 1), q18, W17, rfl, (l5.trans ((l12.sub rfl).trans l17)), rfl, o17, hm⟩⟩
    iterate 15 (refine Agree.up rfl ?_)
    iterate 2 (refine Agree.up rfl ?_)
    exact Agree.base
  · replace hm := bf hm hc9
    refine Cw.exit ?_
    rw [hK6] at hm
    refine Cw.seq ?_
    refine Cw.region ?_
    refine Lw.r rfl (R.mv (v := vI y1) rfl) (Lw.r rfl (R.as (v := vI y1) rfl) ?_)
    refine Lw.nil ?_
    cases hm
    exact Cw.ret (ret1 rfl (Res.mk a8 ⟨rfl, o4⟩))

theorem p41 {W : CW} {K : List Nat} {x0 : List Str} {v0_ : Value} {x1 : Int} {c0 : Nat} {r : Int × (List Str)} (h0 : Ow W c0 [] [v0_] x0) (hJ : okJ K [c0] = true) (hm : Vm.laws_markStringS x0 x1 = some r) : CallR Try.prog 41 [v0_, vI x1].toArray W.w (Res W [c0] fun W' v => v = vI r.1 ∧ Ow W' c0 [] [v0_] r.2) :=
  CallR.adJ (J := [c0]) (fun c => bif Nat.beq c 0 then 0 else bif Nat.beq c 2 then c0 else 0) (c41 (V := W.view K [c0]) (h0.viewJ 0 hJ) hm) fun _ _ ⟨e, f0⟩ => ⟨e, Ow.backJ 0 f0 rfl⟩

theorem c24 {V : CW} {x0 : List Vm.Memo} {v0_ : Value} {x1 : Int} {r : Int × (List Vm.Memo)} (h0 : Ow V 2 [] [v0_] x0) (hm : Vm.laws_markMemoS x0 x1 = some r) : CallR Try.prog 24 [v0_, vI x1].toArray V.w (Res V LL fun Wf v => v = vI r.1 ∧ Ow Wf 2 [] [v0_] r.2) := by
  unfold Vm.laws_markMemoS at hm
  obtain ⟨W0, hW0⟩ : ∃ W, W = V := ⟨V, rfl⟩
  subst hW0
  refine CallR.of Try.func24 rfl rfl rfl rfl ?_
  refine Cw.seq ?_
  refine Cw.region ?_
  refine Lw.r rfl (R.as (v := vI 0) rfl) ?_
  refine Lw.nil ?_
  refine Cw.seq ?_
  refine Cw.seq ?_
  refine Cw.region ?_
  refine Lw.r rfl (R.as (v := vI 0) rfl) ?_
  refine Lw.nil ?_
  refine Cw.block ?_
  obtain ⟨K6, hK6, hm⟩ := jn_e hm
  refine Cw.loop 6 39 [1, 5] (fun m l w => ∃ (y1 : Int) (y2 : Int) (y3 : List Vm.Memo) (W5 : CW), W5.w = w ∧ Le [2, 3, 4, 5, 6] W0 W5 ∧ l = [vI y1, vI y2] ∧ Ow W5 2 [] [v0_] y3 ∧ Vm.laws_markMemoS_l1 K6 m y1 y2 y3 = some r) (((x0.length : Int) - 0).toNat + 1) ⟨x1, 0, x0, W0, rfl, Le.refl _ _, rfl, h0, hm⟩ ?_
  rintro m7 _ _ σ ⟨y1, y2, y3, W5, rfl, l5, rfl, o4, hm⟩
  obtain _ | m7 := m7
  · cases hm
  unfold Vm.laws_markMemoS_l1 at hm
  have a8 : Le LL _ _ := l5.sub rfl
  refine Cw.seq ?_
  refine Cw.seq ?_
  refine Cw.region ?_
  refine Lw.r rfl (R.mv (v := vI y2) rfl) (Lw.r rfl (R.mv (v := v0_) rfl) (Lw.r rfl (lenR (xs := y3) o4.rd rfl) (Lw.r rfl (R.lt rfl rfl) ?_)))
  refine Lw.nil ?_
  refine Cw.cond (b := decide ((y2 : Int) < ((y3.length : Int) : Int))) rfl (fun hc9 => ?_) (fun hc9 => ?_)
  · replace hm := bt hm hc9
    refine Cw.skip ?_
    refine Cw.seq ?_
    refine Cw.block ?_
    refine Cw.seq ?_
    refine Cw.region ?_
    refine Lw.r rfl (R.mv (v := v0_) rfl) (Lw.r rfl (R.mv (v := vI y2) rfl) ?_)
    obtain ⟨u10, e11, hm⟩ := ob hm
    refine Lw.r rfl (R.ix (α := Memo) o4.rd e11 rfl rfl rfl) (Lw.r rfl (R.fa rfl) ?_)
    obtain ⟨v12, c13, r14⟩ := (Memo.at0 (o4.rd.at_ e11)).cell rfl
    refine Lw.r rfl (R.ld rfl rfl c13) (Lw.r rfl (R.mv (v := vI y1) rfl) ?_)
    obtain ⟨W15, ew15, l15, o15, gb15⟩ := Ow.lend (α := Memo) (β := List Str) (j := 3) (jf := 0) o4 e11 c13 rfl
    rw [← ew15]
    have a16 : Le LL _ _ := l15.sub rfl
    obtain ⟨z17, e18, hm⟩ := ob hm
    refine Lw.t rfl (T.call rfl (p41 (K := [0])  (c0 := 3) o15 rfl e18)) ?_
    rintro _ _ ⟨W19, rfl, l19, ⟨rfl, f19_0⟩⟩
    have a20 : Le LL _ _ := l19.sub rfl
    obtain ⟨W22, ew22, l22, q22, eq22, o22⟩ := gb15 _ _ l19 f19_0
    obtain ⟨q22_, eqm22, hm⟩ := ob hm
    obtain rfl : q22_ = q22 := Option.some.inj (eqm22.symm.trans eq22)
    rw [← ew22]
    have a23 : Le LL _ _ := l22.sub rfl
    refine Lw.r rfl (R.as (v := vI z17.1) rfl) ?_
    refine Lw.nil ?_
    refine Cw.seq ?_
    refine Cw.region ?_
    refine Lw.r rfl (R.mv (v := v0_) rfl) (Lw.r rfl (R.mv (v := vI y2) rfl) ?_)
    obtain ⟨u24, e25, hm⟩ := ob hm
    refine Lw.r rfl (R.ix (α := Memo) o22.rd e25 rfl rfl rfl) (Lw.r rfl (R.fa rfl) ?_)
    obtain ⟨v26, c27, r28⟩ := (Memo.at1 (o22.rd.at_ e25)).cell rfl
    refine Lw.r rfl (R.ld rfl rfl c27) (Lw.r rfl (R.mv (v := vI z17.1) rfl) ?_)
    obtain ⟨W29, ew29, l29, o29, gb29⟩ := Ow.lend (α := Memo) (β := List Str) (j := 4) (jf := 1) o22 e25 c27 rfl
    rw [← ew29]
    have a30 : Le LL _ _ := l29.sub rfl
    obtain ⟨z31, e32, hm⟩ := ob hm
    refine Lw.t rfl (T.call rfl (p41 (K := [0])  (c0 := 4) o29 rfl e32)) ?_
    rintro _ _ ⟨W33, rfl, l33, ⟨rfl, f33_0⟩⟩
    have a34 : Le LL _ _ := l33.sub rfl
    obtain ⟨W36, ew36, l36, q36, eq36, o36⟩ := gb29 _ _ l33 f33_0
    obtain ⟨q36_, eqm36, hm⟩ := ob hm
    obtain rfl : q36_ = q36 := Option.some.inj (eqm36.symm.trans eq36)
    rw [← ew36]
    have a37 : Le LL _ _ := l36.sub rfl
    refine Lw.r rfl (R.as (v := vI z31.1) rfl) ?_
    refine Lw.nil ?_
    refine Cw.seq ?_
    refine Cw.region ?_
    refine Lw.r rfl (R.mv (v := v0_) rfl) (Lw.r rfl (R.mv (v := vI y2) rfl) ?_)
    obtain ⟨u38, e39, hm⟩ := ob hm
    refine Lw.r rfl (R.ix (α := Memo) o36.rd e39 rfl rfl rfl) (Lw.r rfl (R.fa rfl) ?_)
    obtain ⟨v40, c41, r42⟩ := (Memo.at2 (o36.rd.at_ e39)).cell rfl
    refine Lw.r rfl (R.ld rfl rfl c41) (Lw.r rfl (R.mv (v := vI z31.1) rfl) ?_)
    obtain ⟨W43, ew43, l43, o43, gb43⟩ := Ow.lend (α := Memo) (β := List Str) (j := 5) (jf := 2) o36 e39 c41 rfl
    rw [← ew43]
    have a44 : Le LL _ _ := l43.sub rfl
    obtain ⟨z45, e46, hm⟩ := ob hm
    refine Lw.t rfl (T.call rfl (p41 (K := [0])  (c0 := 5) o43 rfl e46)) ?_
    rintro _ _ ⟨W47, rfl, l47, ⟨rfl, f47_0⟩⟩
    have a48 : Le LL _ _ := l47.sub rfl
    obtain ⟨W50, ew50, l50, q50, eq50, o50⟩ := gb43 _ _ l47 f47_0
    obtain ⟨q50_, eqm50, hm⟩ := ob hm
    obtain rfl : q50_ = q50 := Option.some.inj (eqm50.symm.trans eq50)
    rw [← ew50]
    have a51 : Le LL _ _ := l50.sub rfl
    refine Lw.r rfl (R.as (v := vI z45.1) rfl) ?_
    refine Lw.nil ?_
    refine Cw.region ?_
    refine Lw.r rfl (R.mv (v := v0_) rfl) (Lw.r rfl (R.mv (v := vI y2) rfl) ?_)
    obtain ⟨u52, e53, hm⟩ := ob hm
    refine Lw.r rfl (R.ix (α := Memo) o50.rd e53 rfl rfl rfl) (Lw.r rfl (R.fa rfl) ?_)
    obtain ⟨v54, c55, r56⟩ := (Memo.at3 (o50.rd.at_ e53)).cell rfl
    refine Lw.r rfl (R.ld rfl rfl c55) (Lw.r rfl (R.mv (v := vI z45.1) rfl) ?_)
    obtain ⟨W57, ew57, l57, o57, gb57⟩ := Ow.lend (α := Memo) (β := List Str) (j := 6) (jf := 3) o50 e53 c55 rfl
    rw [← ew57]
    have a58 : Le LL _ _ := l57.sub rfl
    obtain ⟨z59, e60, hm⟩ := ob hm
    refine Lw.t rfl (T.call rfl (p41 (K := [0])  (c0 := 6) o57 rfl e60)) ?_
    rintro _ _ ⟨W61, rfl, l61, ⟨rfl, f61_0⟩⟩
    have a62 : Le LL _ _ := l61.sub rfl
    obtain ⟨W64, ew64, l64, q64, eq64, o64⟩ := gb57 _ _ l61 f61_0
    obtain ⟨q64_, eqm64, hm⟩ := ob hm
    obtain rfl : q64_ = q64 := Option.some.inj (eqm64.symm.trans eq64)
    rw [← ew64]
    have a65 : Le LL _ _ := l64.sub rfl
    refine Lw.r rfl (R.as (v := vI z59.1) rfl) ?_
    refine Lw.nil ?_
    refine Cw.region ?_
    refine Lw.r rfl (R.mv (v := vI y2) rfl) (Lw.r rfl (R.add rfl rfl) (Lw.r rfl (R.as (v := vI (w64 (y2 + 1))) rfl) ?_))
    refine Lw.nil ?_
    refine ⟨?_, m7, Nat.lt_succ_self m7, ⟨z59.1, w64 (y2 + 1), q64_, W64, rfl, (l5.trans ((l15.sub rfl).trans ((l19.sub rfl).trans ((l22.sub rfl).trans ((l29.sub rfl).trans ((l33.sub rfl).trans ((l36.sub rfl).trans ((l43.sub rfl).trans ((l47.sub rfl).trans ((l50.sub rfl).trans ((l57.sub rfl).trans ((l61.sub rfl).trans (l64.sub rfl))))))))))))), rfl, o64, hm⟩⟩
    iterate 39 (refine Agree.up rfl ?_)
    iterate 2 (refine Agree.up rfl ?_)
    exact Agree.base
  · replace hm := bf hm hc9
    refine Cw.exit ?_
    rw [hK6] at hm
    refine Cw.seq ?_
    refine Cw.region ?_
    refine Lw.r rfl (R.mv (v := vI y1) rfl) (Lw.r rfl (R.as (v := vI y1) rfl) ?_)
    refine Lw.nil ?_
    cases hm
    exact Cw.ret (ret1 rfl (Res.mk a8 ⟨rfl, o4⟩))

theorem p24 {W : CW} {K : List Nat} {x0 : List Vm.Memo} {v0_ : Value} {x1 : Int} {c0 : Nat} {r : Int × (List Vm.Memo)} (h0 : Ow W c0 [] [v0_] x0) (hJ : okJ K [c0] = true) (hm : Vm.laws_markMemoS x0 x1 = some r) : CallR Try.prog 24 [v0_, vI x1].toArray W.w (Res W [c0] fun W' v => v = vI r.1 ∧ Ow W' c0 [] [v0_] r.2) :=
  CallR.adJ (J := [c0]) (fun c => bif Nat.beq c 0 then 0 else bif Nat.beq c 2 then c0 else 0) (c24 (V := W.view K [c0]) (h0.viewJ 0 hJ) hm) fun _ _ ⟨e, f0⟩ => ⟨e, Ow.backJ 0 f0 rfl⟩

theorem c25 {V : CW} {x0 : Vm.Memo} {v0_0_ : Value} {v0_1_ : Value} {v0_2_ : Value} {v0_3_ : Value} {x1 : Int} {r : Int × Vm.Memo} (h0_0 : Ow V 2 [] [v0_0_] x0.Old) (h0_1 : Ow V 3 [] [v0_1_] x0.One) (h0_2 : Ow V 4 [] [v0_2_] x0.Two) (h0_3 : Ow V 5 [] [v0_3_] x0.Done) (hm : Vm.laws_markMemo x0 x1 = some r) : CallR Try.prog 25 [.agg [v0_0_, v0_1_, v0_2_, v0_3_].toArray, vI x1].toArray V.w (Res V LL fun Wf v => v = vI r.1 ∧ Ow Wf 2 [] [v0_0_] r.2.Old ∧ Ow Wf 3 [] [v0_1_] r.2.One ∧ Ow Wf 4 [] [v0_2_] r.2.Two ∧ Ow Wf 5 [] [v0_3_] r.2.Done) := by
  unfold Vm.laws_markMemo at hm
  obtain ⟨W0, hW0⟩ : ∃ W, W = V := ⟨V, rfl⟩
  subst hW0
  refine CallR.of Try.func25 rfl rfl rfl rfl ?_
  refine Cw.seq ?_
  refine Cw.region ?_
  refine Lw.t rfl (T.box 6 (v := .agg [v0_0_, v0_1_, v0_2_, v0_3_].toArray) (cs := [v0_0_, v0_1_, v0_2_, v0_3_]) rfl rfl) ?_
  rintro _ _ ⟨g1, W1, rfl, rfl, l1, b1⟩
  have a2 : Le LL _ _ := l1.nil
  have o3 := h0_0.up l1 rfl
  have o4 := h0_1.up l1 rfl
  have o5 := h0_2.up l1 rfl
  have o6 := h0_3.up l1 rfl
  refine Lw.r rfl (R.as (v := vI 0) rfl) ?_
  refine Lw.nil ?_
  refine Cw.seq ?_
  refine Cw.region ?_
  refine Lw.r rfl (R.fa rfl) (Lw.r rfl (R.ld (v := v0_0_) rfl rfl (b1.cell rfl)) (Lw.r rfl (R.mv (v := vI x1) rfl) ?_))
  obtain ⟨z7, e8, hm⟩ := ob hm
  refine Lw.t rfl (T.call rfl (p41 (K := [0])  (c0 := 2) o3 rfl e8)) ?_
  rintro _ _ ⟨W9, rfl, l9, ⟨rfl, f9_0⟩⟩
  have a10 : Le LL _ _ := l9.sub rfl
  have o11 := o4.up l9 rfl
  have o12 := o5.up l9 rfl
  have o13 := o6.up l9 rfl
  have b14 := b1.up l9 rfl
  refine Lw.r rfl (R.as (v := vI z7.1) rfl) ?_
  refine Lw.nil ?_
  refine Cw.seq ?_
  refine Cw.region ?_
  refine Lw.r rfl (R.fa rfl) (Lw.r rfl (R.ld (v := v0_1_) rfl rfl (b14.cell rfl)) (Lw.r rfl (R.mv (v := vI z7.1) rfl) ?_))
  obtain ⟨z15, e16, hm⟩ := ob hm
  refine Lw.t rfl (T.call rfl (p41 (K := [0])  (c0 := 3) o11 rfl e16)) ?_
  rintro _ _ ⟨W17, rfl, l17, ⟨rfl, f17_0⟩⟩
  have a18 : Le LL _ _ := l17.sub rfl
  have o19 := f9_0.up l17 rfl
  have o20 := o12.up l17 rfl
  have o21 := o13.up l17 rfl
  have b22 := b14.up l17 rfl
  refine Lw.r rfl (R.as (v := vI z15.1) rfl) ?_
  refine Lw.nil ?_
  refine Cw.seq ?_
  refine Cw.region ?_
  refine Lw.r rfl (R.fa rfl) (Lw.r rfl (R.ld (v := v0_2_) rfl rfl (b22.cell rfl)) (Lw.r rfl (R.mv (v := vI z15.1) rfl) ?_))
  obtain ⟨z23, e24, hm⟩ := ob hm
  refine Lw.t rfl (T.call rfl (p41 (K := [0])  (c0 := 4) o20 rfl e24)) ?_
  rintro _ _ ⟨W25, rfl, l25, ⟨rfl, f25_0⟩⟩
  have a26 : Le LL _ _ := l25.sub rfl
  have o27 := o19.up l25 rfl
  have o28 := f17_0.up l25 rfl
  have o29 := o21.up l25 rfl
  have b30 := b22.up l25 rfl
  refine Lw.r rfl (R.as (v := vI z23.1) rfl) ?_
  refine Lw.nil ?_
  refine Cw.seq ?_
  refine Cw.region ?_
  refine Lw.r rfl (R.fa rfl) (Lw.r rfl (R.ld (v := v0_3_) rfl rfl (b30.cell rfl)) (Lw.r rfl (R.mv (v := vI z23.1) rfl) ?_))
  obtain ⟨z31, e32, hm⟩ := ob hm
  refine Lw.t rfl (T.call rfl (p41 (K := [0])  (c0 := 5) o29 rfl e32)) ?_
  rintro _ _ ⟨W33, rfl, l33, ⟨rfl, f33_0⟩⟩
  have a34 : Le LL _ _ := l33.sub rfl
  have o35 := o27.up l33 rfl
  have o36 := o28.up l33 rfl
  have o37 := f25_0.up l33 rfl
  have b38 := b30.up l33 rfl
  refine Lw.r rfl (R.as (v := vI z31.1) rfl) ?_
  refine Lw.nil ?_
  refine Cw.seq ?_
  refine Cw.region ?_
  refine Lw.r rfl (R.mv (v := vI z31.1) rfl) (Lw.r rfl (R.as (v := vI z31.1) rfl) ?_)
  refine Lw.nil ?_
  cases hm
  exact Cw.ret (ret1 rfl (Res.mk (a2.trans (a10.trans (a18.trans (a26.trans a34)))) ⟨rfl, o35, o36, o37, f33_0⟩))

theorem p25 {W : CW} {K : List Nat} {x0 : Vm.Memo} {v0_0_ : Value} {v0_1_ : Value} {v0_2_ : Value} {v0_3_ : Value} {x1 : Int} {c0 : Nat} {c1 : Nat} {c2 : Nat} {c3 : Nat} {r : Int × Vm.Memo} (h0_0 : Ow W c0 [] [v0_0_] x0.Old) (h0_1 : Ow W c1 [] [v0_1_] x0.One) (h0_2 : Ow W c2 [] [v0_2_] x0.Two) (h0_3 : Ow W c3 [] [v0_3_] x0.Done) (hJ : okJ K [c0, c1, c2, c3] = true) (hm : Vm.laws_markMemo x0 x1 = some r) : CallR Try.prog 25 [.agg [v0_0_, v0_1_, v0_2_, v0_3_].toArray, vI x1].toArray W.w (Res W [c0, c1, c2, c3] fun W' v => v = vI r.1 ∧ Ow W' c0 [] [v0_0_] r.2.Old ∧ Ow W' c1 [] [v0_1_] r.2.One ∧ Ow W' c2 [] [v0_2_] r.2.Two ∧ Ow W' c3 [] [v0_3_] r.2.Done) :=
  CallR.adJ (J := [c0, c1, c2, c3]) (fun c => bif Nat.beq c 0 then 0 else bif Nat.beq c 2 then c0 else bif Nat.beq c 3 then c1 else bif Nat.beq c 4 then c2 else bif Nat.beq c 5 then c3 else 0) (c25 (V := W.view K [c0, c1, c2, c3]) (h0_0.viewJ 0 hJ) (h0_1.viewJ 1 hJ) (h0_2.viewJ 2 hJ) (h0_3.viewJ 3 hJ) hm) fun _ _ ⟨e, f0, f1, f2, f3⟩ => ⟨e, Ow.backJ 0 f0 rfl, Ow.backJ 1 f1 rfl, Ow.backJ 2 f2 rfl, Ow.backJ 3 f3 rfl⟩

theorem c42 {V : CW} {x0 : List Str} {v0_ : Value} {x1 : Int} {r : Int} (h0 : Rd V [0] [v0_] x0) (hm : Vm.laws_heldStringS x0 x1 = some r) : CallR Try.prog 42 [v0_, vI x1].toArray V.w (Res V LL fun Wf v => v = vI r) := by
  unfold Vm.laws_heldStringS at hm
  obtain ⟨W0, hW0⟩ : ∃ W, W = V := ⟨V, rfl⟩
  subst hW0
  refine CallR.of Try.func42 rfl rfl rfl rfl ?_
  refine Cw.seq ?_
  refine Cw.region ?_
  refine Lw.r rfl (R.as (v := vI 0) rfl) ?_
  refine Lw.nil ?_
  refine Cw.seq ?_
  refine Cw.seq ?_
  refine Cw.region ?_
  refine Lw.r rfl (R.as (v := vI 0) rfl) ?_
  refine Lw.nil ?_
  refine Cw.block ?_
  obtain ⟨K5, hK5, hm⟩ := jn_e hm
  refine Cw.loop 6 20 [1, 4, 5] (fun m l w => ∃ (y1 : Int) (y2 : Int) (y3 : Int) (W4 : CW), W4.w = w ∧ Le [] W0 W4 ∧ l = [vI y1, vI y2, vI y3] ∧ Vm.laws_heldStringS_l1 x0 K5 m y1 y2 y3 = some r) (((x0.length : Int) - 0).toNat + 1) ⟨x1, 0, 0, W0, rfl, Le.refl _ _, rfl, hm⟩ ?_
  rintro m6 _ _ σ ⟨y1, y2, y3, W4, rfl, l4, rfl, hm⟩
  obtain _ | m6 := m6
  · cases hm
  unfold Vm.laws_heldStringS_l1 at hm
  have a7 : Le LL _ _ := l4.nil
  refine Cw.seq ?_
  refine Cw.seq ?_
  refine Cw.region ?_
  have s8 := h0.ul a7
  refine Lw.r rfl (R.mv (v := vI y3) rfl) (Lw.r rfl (R.mv (v := v0_) rfl) (Lw.r rfl (lenR (xs := x0) s8 rfl) (Lw.r rfl (R.lt rfl rfl) ?_)))
  refine Lw.nil ?_
  refine Cw.cond (b := decide ((y3 : Int) < ((x0.length : Int) : Int))) rfl (fun hc9 => ?_) (fun hc9 => ?_)
  · replace hm := bt hm hc9
    refine Cw.skip ?_
    refine Cw.seq ?_
    refine Cw.block ?_
    refine Cw.seq ?_
    refine Cw.seq ?_
    refine Cw.draw [] [(0, 0), (1, 0), (2, 0), (3, 1), (4, 0), (5, 2), (6, 0)] mixed (by kernel_rfl) fun W10 l10 => ?_
    have a11 : Le LL _ _ := l10.nil
    refine Mw.p rfl rfl (fun _ => R.mv (v := v0_) rfl) (Mw.p rfl rfl (fun _ => R.mv (v := vI y3) rfl) ?_)
    obtain ⟨u12, e13, hm⟩ := ob hm
    have s14 := h0.ul (a7.trans a11)
    refine Mw.p rfl rfl (fun _ => R.ix (α := Str) s14 e13 rfl rfl rfl) (Mw.q rfl rfl (fun _ c => R.ld rfl rfl (cl_cell (s14.at_ e13).1 rfl (s14.at_ e13).str c)) (Mw.p rfl rfl (fun _ => R.mv (v := vI y1) rfl) ?_))
    obtain ⟨z15, e16, hm⟩ := ob hm
    refine Mw.t rfl rfl (T.call rfl (p76 (K := [0])   e16)) ?_
    rintro _ _ ⟨W17, rfl, l17, rfl⟩
    have a18 : Le LL _ _ := l17.nil
    refine ⟨⟨_, rfl, (l17.sub (M := []) rfl)⟩, ?_⟩
    refine Mw.p rfl rfl (fun _ => R.sne rfl rfl) ?_
    refine Mw.nil ?_
    refine Cw.cond (b := (u12 != z15)) rfl (fun hc19 => ?_) (fun hc19 => ?_)
    · replace hm := bt hm hc19
      refine Cw.seq ?_
      refine Cw.region ?_
      refine Lw.r rfl (R.as (v := vI (-1)) rfl) ?_
      refine Lw.nil ?_
      cases hm
      exact Cw.ret (ret1 rfl (Res.mk (a7.trans (a11.trans a18)) rfl))
    · replace hm := bf hm hc19
      refine Cw.skip ?_
      refine Cw.region ?_
      refine Lw.r rfl (R.mv (v := vI y1) rfl) (Lw.r rfl (R.add rfl rfl) (Lw.r rfl (R.as (v := vI (w64 (y1 + 1))) rfl) ?_))
      refine Lw.nil ?_
      refine Cw.region ?_
      refine Lw.r rfl (R.mv (v := vI y3) rfl) (Lw.r rfl (R.add rfl rfl) (Lw.r rfl (R.as (v := vI (w64 (y3 + 1))) rfl) ?_))
      refine Lw.nil ?_
      refine ⟨?_, m6, Nat.lt_succ_self m6, ⟨w64 (y1 + 1), y2, w64 (y3 + 1), W17, rfl, (l4.trans (l10.trans l17)), rfl, hm⟩⟩
      iterate 17 (refine Agree.up rfl ?_)
      iterate 3 (refine Agree.up rfl ?_)
      exact Agree.base
  · replace hm := bf hm hc9
    refine Cw.exit ?_
    rw [hK5] at hm
    refine Cw.seq ?_
    refine Cw.region ?_
    refine Lw.r rfl (R.mv (v := vI y1) rfl) (Lw.r rfl (R.as (v := vI y1) rfl) ?_)
    refine Lw.nil ?_
    cases hm
    exact Cw.ret (ret1 rfl (Res.mk a7 rfl))

theorem p42 {W : CW} {K : List Nat} {x0 : List Str} {v0_ : Value} {x1 : Int} {r : Int} (h0 : Rd W K [v0_] x0) (hm : Vm.laws_heldStringS x0 x1 = some r) : CallR Try.prog 42 [v0_, vI x1].toArray W.w (Res W [] fun W' v => v = vI r) :=
  (c42 (V := W.view K []) (h0.view _) hm).ad (fk 0) fun _ _ e => e

end Go.Sx
