/- Walks: each function answers as its model, printed by a program of ours. Conditions: the arguments read as they are given. -/
import Derived.Test.YtjdljoplpcakpaaXTs
import Derived.Test.YtjdljoplpcakpaaXMd
import Derived.Test.YtjdljoplpcakpaaXW1
import Derived.Test.YtjdljoplpcakpaaXW2
namespace Go.Sx
open Go Go.Proofs Go.Vm Rp
set_option linter.unusedVariables false
set_option linter.unusedSimpArgs false

theorem c17 {V : CW} {x0 : List Byte} {v0_ : Value} {r : (List Vm.Memo) × Vm.Memo} (h0 : Rd V [0] [v0_] x0) (hm : Vm.spec_DrawMemoPut x0 = some r) : CallR Try.prog 17 [v0_].toArray V.w (Res V LL fun Wf v => ∃ (u0 : Value) (u1_0 : Value) (u1_1 : Value) (u1_2 : Value) (u1_3 : Value), v = .tuple [u0, .agg [u1_0, u1_1, u1_2, u1_3].toArray].toArray ∧ OwS Wf [31] [] [u0] r.1 ∧ OwS Wf [32] [] [u1_0] r.2.Old ∧ OwS Wf [33] [] [u1_1] r.2.One ∧ OwS Wf [34] [] [u1_2] r.2.Two ∧ OwS Wf [35] [] [u1_3] r.2.Done) := by
 unfold Vm.spec_DrawMemoPut at hm
 obtain ⟨W0, hW0⟩ : ∃ W, W = V := ⟨V, rfl⟩
 subst hW0
 refine CallR.of Try.func17 rfl rfl rfl rfl (Cw.seq (Cw.region (Lw.g (.slice none 0 0) rfl (Lw.t rfl (T.alloc 2 (cs := [.slice none 0 0, .slice none 0 0, .slice none 0 0, .slice none 0 0]) rfl) ?_))))
 rintro _ _ ⟨g1, W1, rfl, rfl, l1, b1⟩
 have a2 := l1.o
 refine Lw.nil (Cw.seq (Cw.region (Lw.m v0_ rfl ?_)))
 obtain ⟨z4, e5, hm⟩ := ob hm
 refine Lw.t rfl (T.call rfl (p58 (K := [0]) (k0 := 3) (h0.ul a2) e5)) ?_
 rintro _ _ ⟨W6, rfl, l6, ⟨g0_6, v0_0_6, rfl, f6_0, f6_1⟩⟩
 have s7 := f6_1.sub (M := [0]) rfl
 have a8 := a2.n l6
 refine Lw.g (ptr (bx g0_6)) rfl (Lw.nil (Cw.seq (Cw.region (Lw.m (ptr (bx g0_6)) rfl ?_))))
 obtain ⟨z10, e11, hm⟩ := ob hm
 refine Lw.t rfl (T.call rfl (p59 (K := [0]) (k0 := 4) (c0 := 3) (x0 := z4) f6_0 s7 rfl e11)) ?_
 rintro v0_12 _ ⟨W12, rfl, l12, ⟨_, rfl, f12_0, f12_1⟩⟩
 have a13 := l12.s rfl
 refine Lw.g v0_12 rfl (Lw.nil (Cw.seq (Cw.region (Lw.m v0_12 rfl (Lw.m (ptr (bx g0_6)) rfl ?_)))))
 obtain ⟨z16, e17, hm⟩ := ob hm
 refine Lw.t rfl (T.call rfl (p60 (K := [0]) (k0 := 5) (k1 := 6) (k2 := 7) (k3 := 8) (c0 := 3) (x0 := (Vm.l30Rd.mk z4.b z10.2)) f12_1 (s7.ul a13) rfl e17)) ?_
 rintro _ _ ⟨W18, rfl, l18, ⟨v0_0_18, v0_1_18, v0_2_18, v0_3_18, rfl, f18_0, f18_1, f18_2, f18_3, f18_4⟩⟩
 have a19 := (a8.trans a13).t l18 rfl
 refine Lw.g v0_12 rfl (Lw.u (T.sta (vs := [v0_0_18, v0_1_18, v0_2_18, v0_3_18]) (((b1.up l6 rfl).up l12 rfl).up l18 rfl) rfl rfl (oc_cons f18_0.oc (oc_cons f18_1.oc (oc_cons f18_2.oc (oc_cons f18_3.oc oc_nil)))) rfl rfl) ?_)
 rintro _ _ ⟨W22, rfl, l22, b22⟩
 have a23 := a19.t l22 rfl
 refine Lw.nil ?_
 obtain ⟨W30, ew30, l30, o30⟩ := ((f12_0.up l18 rfl).up l22 rfl).dyeO 31
 have a31 := a23.t l30 rfl
 obtain ⟨W38, ew38, l38, o38⟩ := ((f18_0.up l22 rfl).up l30 rfl).dyeO 32
 have a39 := a31.t l38 rfl
 obtain ⟨W46, ew46, l46, o46⟩ := (((f18_1.up l22 rfl).up l30 rfl).up l38 rfl).dyeO 33
 have a47 := a39.t l46 rfl
 obtain ⟨W54, ew54, l54, o54⟩ := ((((f18_2.up l22 rfl).up l30 rfl).up l38 rfl).up l46 rfl).dyeO 34
 have a55 := a47.t l54 rfl
 obtain ⟨W62, ew62, l62, o62⟩ := (((((f18_3.up l22 rfl).up l30 rfl).up l38 rfl).up l46 rfl).up l54 rfl).dyeO 35
 have a63 := a55.t l62 rfl
 cases hm
 rw [← ew62.trans (ew54.trans (ew46.trans (ew38.trans (ew30))))]
 exact Cw.ret (ret2A rfl (((((b22.up l30 rfl).up l38 rfl).up l46 rfl).up l54 rfl).up l62 rfl) rfl (Res.mk a63 ⟨v0_12, v0_0_18, v0_1_18, v0_2_18, v0_3_18, rfl, ((((o30.up l38 rfl).up l46 rfl).up l54 rfl).up l62 rfl).s, (((o38.up l46 rfl).up l54 rfl).up l62 rfl).s, ((o46.up l54 rfl).up l62 rfl).s, (o54.up l62 rfl).s, o62.s⟩))

theorem p17 {W : CW} {K : List Nat} {x0 : List Byte} {v0_ : Value} {k0 : Nat} {k1 : Nat} {k2 : Nat} {k3 : Nat} {k4 : Nat} {r : (List Vm.Memo) × Vm.Memo} (h0 : Rd W K [v0_] x0) (hm : Vm.spec_DrawMemoPut x0 = some r) : CallR Try.prog 17 [v0_].toArray W.w (Res W [] fun W' v => ∃ (u0 : Value) (u1_0 : Value) (u1_1 : Value) (u1_2 : Value) (u1_3 : Value), v = .tuple [u0, .agg [u1_0, u1_1, u1_2, u1_3].toArray].toArray ∧ Ow W' k0 [] [u0] r.1 ∧ Ow W' k1 [] [u1_0] r.2.Old ∧ Ow W' k2 [] [u1_1] r.2.One ∧ Ow W' k3 [] [u1_2] r.2.Two ∧ Ow W' k4 [] [u1_3] r.2.Done) :=
 CallR.adJ (J := []) (fun c => bif Nat.beq c 0 then 0 else bif Nat.beq c 31 then k0 else bif Nat.beq c 32 then k1 else bif Nat.beq c 33 then k2 else bif Nat.beq c 34 then k3 else bif Nat.beq c 35 then k4 else 0) (c17 (V := W.view K []) (h0.view _) hm) fun _ _ ⟨u0, u1_0, u1_1, u1_2, u1_3, e, f0, f1, f2, f3, f4⟩ => ⟨u0, u1_0, u1_1, u1_2, u1_3, e, f0.one1.backN rfl, f1.one1.backN rfl, f2.one1.backN rfl, f3.one1.backN rfl, f4.one1.backN rfl⟩

theorem c91 {V : CW} {x0 : List Str} {v0_ : Value} {r : (List Str)} (h0 : Rd V [0] [v0_] x0) (hm : Vm.impl_copyText x0 = some r) : CallR Try.prog 91 [v0_].toArray V.w (Res V LL fun Wf v => ∃ (u0 : Value), v = u0 ∧ OwS Wf LL [] [u0] r) := by
 unfold Vm.impl_copyText at hm
 obtain ⟨W0, hW0⟩ : ∃ W, W = V := ⟨V, rfl⟩
 subst hW0
 refine CallR.of Try.func91 rfl rfl rfl rfl (Cw.seq (Cw.region (Lw.g (.slice none 0 0) rfl (Lw.nil (Cw.seq (Cw.region (Lw.t rfl (T.lit0 (α := Str) 2 []) ?_)))))))
 rintro v1 _ ⟨W1, rfl, l1, o1⟩
 have a2 := l1.o
 refine Lw.m v0_ rfl ?_
 obtain ⟨q3, e4, hm⟩ := ob hm
 refine Lw.t rfl (T.appP (α := Str) o1 (h0.ul a2) rfl rfl e4) ?_
 rintro v5 _ ⟨W5, rfl, l5, o5⟩
 have a7 := a2.t l5 rfl
 refine Lw.g v5 rfl (Lw.nil ?_)
 cases hm
 exact Cw.ret (ret1 rfl (Res.mk a7 ⟨v5, rfl, o5.s.sub rfl rfl⟩))

theorem p91 {W : CW} {K : List Nat} {x0 : List Str} {v0_ : Value} {k0 : Nat} {r : (List Str)} (h0 : Rd W K [v0_] x0) (hm : Vm.impl_copyText x0 = some r) : CallR Try.prog 91 [v0_].toArray W.w (Res W [] fun W' v => ∃ (u0 : Value), v = u0 ∧ Ow W' k0 [] [u0] r) :=
 (c91 (V := W.view K []) (h0.view _) hm).ad (fk k0) fun _ _ ⟨u0, e, f0⟩ => ⟨u0, e, f0.back (fk_LL _)⟩

theorem c61 {V : CW} {x0 : Vm.Memo} {v0_0_ : Value} {v0_1_ : Value} {v0_2_ : Value} {v0_3_ : Value} {r : Vm.Memo} (h0 : Rd V [0] [v0_0_, v0_1_, v0_2_, v0_3_] x0) (hm : Vm.impl_Memo_own x0 = some r) : CallR Try.prog 61 [.agg [v0_0_, v0_1_, v0_2_, v0_3_].toArray].toArray V.w (Res V LL fun Wf v => ∃ (u0_0 : Value) (u0_1 : Value) (u0_2 : Value) (u0_3 : Value), v = .agg [u0_0, u0_1, u0_2, u0_3].toArray ∧ OwS Wf [31] [] [u0_0] r.Old ∧ OwS Wf [32] [] [u0_1] r.One ∧ OwS Wf [33] [] [u0_2] r.Two ∧ OwS Wf [34] [] [u0_3] r.Done) := by
 unfold Vm.impl_Memo_own at hm
 obtain ⟨w0_0, w0_1, w0_2, w0_3, he0, h0_0, h0_1, h0_2, h0_3⟩ := Memo.split h0
 simp only [List.cons.injEq, and_true, true_and] at he0
 obtain ⟨rfl, rfl, rfl, rfl⟩ := he0
 obtain ⟨W0, hW0⟩ : ∃ W, W = V := ⟨V, rfl⟩
 subst hW0
 refine CallR.of Try.func61 rfl rfl rfl rfl (Cw.seq (Cw.region (Lw.t rfl (T.box 2 (v := .agg [v0_0_, v0_1_, v0_2_, v0_3_].toArray) (cs := [v0_0_, v0_1_, v0_2_, v0_3_]) rfl rfl) ?_)))
 rintro _ _ ⟨g1, W1, rfl, rfl, l1, b1⟩
 have a2 := l1.o
 refine Lw.t rfl (T.alloc 3 (cs := [.slice none 0 0, .slice none 0 0, .slice none 0 0, .slice none 0 0]) rfl) ?_
 rintro _ _ ⟨g3, W3, rfl, rfl, l3, b3⟩
 have a4 := a2.n l3
 refine Lw.nil (Cw.seq (Cw.draw [] [(0, 0), (1, 1), (3, 0), (4, 1), (6, 0), (7, 1), (9, 0), (10, 1), (2, 2), (5, 2), (8, 2), (11, 2), (12, 0), (13, 3)] mixed (by kernel_rfl) fun W6 l6 => ?_))
 have a7 := a4.n l6
 have b8 := (b1.up l3 rfl).up l6 rfl
 refine Mw.p rfl rfl (fun _ => R.fa rfl) (Mw.q rfl rfl (fun _ c => R.ld (v := v0_0_) rfl rfl (b8.clc rfl rfl c)) (Mw.p rfl rfl (fun _ => R.fa rfl) (Mw.q rfl rfl (fun _ c => R.ld (v := v0_1_) rfl rfl (b8.clc rfl rfl c)) (Mw.p rfl rfl (fun _ => R.fa rfl) (Mw.q rfl rfl (fun _ c => R.ld (v := v0_2_) rfl rfl (b8.clc rfl rfl c)) (Mw.p rfl rfl (fun _ => R.fa rfl) (Mw.q rfl rfl (fun _ c => R.ld (v := v0_3_) rfl rfl (b8.clc rfl rfl c)) ?_)))))))
 obtain ⟨z11, e12, hm⟩ := ob hm
 refine Mw.t rfl rfl (T.call rfl (p91 (K := [0]) (k0 := 4) (h0_0.ul a7) e12)) ?_
 rintro v0_13 _ ⟨W13, rfl, l13, ⟨_, rfl, f13_0⟩⟩
 have a14 := a7.n l13
 refine ⟨⟨_, rfl, (l13.sub (M := []) rfl)⟩, ?_⟩
 obtain ⟨z18, e19, hm⟩ := ob hm
 refine Mw.t rfl rfl (T.call rfl (p91 (K := [0]) (k0 := 5) (h0_1.ul a14) e19)) ?_
 rintro v0_20 _ ⟨W20, rfl, l20, ⟨_, rfl, f20_0⟩⟩
 have a21 := a14.n l20
 refine ⟨⟨_, rfl, ((l13.sub (M := []) rfl).trans (l20.sub (M := []) rfl))⟩, ?_⟩
 obtain ⟨z26, e27, hm⟩ := ob hm
 refine Mw.t rfl rfl (T.call rfl (p91 (K := [0]) (k0 := 6) (h0_2.ul a21) e27)) ?_
 rintro v0_28 _ ⟨W28, rfl, l28, ⟨_, rfl, f28_0⟩⟩
 have a29 := a21.n l28
 refine ⟨⟨_, rfl, ((l13.sub (M := []) rfl).trans ((l20.sub (M := []) rfl).trans (l28.sub (M := []) rfl)))⟩, ?_⟩
 obtain ⟨z35, e36, hm⟩ := ob hm
 refine Mw.t rfl rfl (T.call rfl (p91 (K := [0]) (k0 := 7) (h0_3.ul a29) e36)) ?_
 rintro v0_37 _ ⟨W37, rfl, l37, ⟨_, rfl, f37_0⟩⟩
 have a38 := a29.n l37
 have o39 := ((f13_0.up l20 rfl).up l28 rfl).up l37 rfl
 have o40 := (f20_0.up l28 rfl).up l37 rfl
 have o41 := f28_0.up l37 rfl
 refine ⟨⟨_, rfl, ((l13.sub (M := []) rfl).trans ((l20.sub (M := []) rfl).trans ((l28.sub (M := []) rfl).trans (l37.sub (M := []) rfl))))⟩, ?_⟩
 refine Mw.p rfl rfl (fun _ => R.bd (zs := [.slice none 0 0, .slice none 0 0, .slice none 0 0, .slice none 0 0]) (cs := [v0_13, v0_20, v0_28, v0_37]) [(0, v0_13), (1, v0_20), (2, v0_28), (3, v0_37)] rfl rfl rfl (bp_cons o39.oc rfl (bp_cons o40.oc rfl (bp_cons o41.oc rfl (bp_cons f37_0.oc rfl bp_nil))))) (Mw.lu rfl (T.sta (vs := [v0_13, v0_20, v0_28, v0_37]) (((((b3.up l6 rfl).up l13 rfl).up l20 rfl).up l28 rfl).up l37 rfl) rfl rfl (oc_cons o39.oc (oc_cons o40.oc (oc_cons o41.oc (oc_cons f37_0.oc oc_nil)))) rfl rfl) ?_)
 rintro _ _ ⟨W44, rfl, l44, b44⟩
 have a45 := a38.t l44 rfl
 refine Mw.nil ?_
 obtain ⟨W51, ew51, l51, o51⟩ := (o39.up l44 rfl).dyeO 31
 have a52 := a45.t l51 rfl
 obtain ⟨W58, ew58, l58, o58⟩ := ((o40.up l44 rfl).up l51 rfl).dyeO 32
 have a59 := a52.t l58 rfl
 obtain ⟨W65, ew65, l65, o65⟩ := (((o41.up l44 rfl).up l51 rfl).up l58 rfl).dyeO 33
 have a66 := a59.t l65 rfl
 obtain ⟨W72, ew72, l72, o72⟩ := ((((f37_0.up l44 rfl).up l51 rfl).up l58 rfl).up l65 rfl).dyeO 34
 have a73 := a66.t l72 rfl
 cases hm
 rw [← ew72.trans (ew65.trans (ew58.trans (ew51)))]
 exact Cw.ret (retA1 rfl ((((b44.up l51 rfl).up l58 rfl).up l65 rfl).up l72 rfl) (Res.mk a73 ⟨v0_13, v0_20, v0_28, v0_37, rfl, (((o51.up l58 rfl).up l65 rfl).up l72 rfl).s, ((o58.up l65 rfl).up l72 rfl).s, (o65.up l72 rfl).s, o72.s⟩))

theorem p61 {W : CW} {K : List Nat} {x0 : Vm.Memo} {v0_0_ : Value} {v0_1_ : Value} {v0_2_ : Value} {v0_3_ : Value} {k0 : Nat} {k1 : Nat} {k2 : Nat} {k3 : Nat} {r : Vm.Memo} (h0 : Rd W K [v0_0_, v0_1_, v0_2_, v0_3_] x0) (hm : Vm.impl_Memo_own x0 = some r) : CallR Try.prog 61 [.agg [v0_0_, v0_1_, v0_2_, v0_3_].toArray].toArray W.w (Res W [] fun W' v => ∃ (u0_0 : Value) (u0_1 : Value) (u0_2 : Value) (u0_3 : Value), v = .agg [u0_0, u0_1, u0_2, u0_3].toArray ∧ Ow W' k0 [] [u0_0] r.Old ∧ Ow W' k1 [] [u0_1] r.One ∧ Ow W' k2 [] [u0_2] r.Two ∧ Ow W' k3 [] [u0_3] r.Done) :=
 CallR.adJ (J := []) (fun c => bif Nat.beq c 0 then 0 else bif Nat.beq c 31 then k0 else bif Nat.beq c 32 then k1 else bif Nat.beq c 33 then k2 else bif Nat.beq c 34 then k3 else 0) (c61 (V := W.view K []) (h0.view _) hm) fun _ _ ⟨u0_0, u0_1, u0_2, u0_3, e, f0, f1, f2, f3⟩ => ⟨u0_0, u0_1, u0_2, u0_3, e, f0.one1.backN rfl, f1.one1.backN rfl, f2.one1.backN rfl, f3.one1.backN rfl⟩

theorem c62 {V : CW} {x0 : List Vm.Memo} {v0_ : Value} {r : (List Vm.Memo)} (h0 : Rd V [0] [v0_] x0) (hm : Vm.impl_ownMemos x0 = some r) : CallR Try.prog 62 [v0_].toArray V.w (Res V LL fun Wf v => ∃ (u0 : Value), v = u0 ∧ OwS Wf LL [] [u0] r) := by
 unfold Vm.impl_ownMemos at hm
 obtain ⟨W0, hW0⟩ : ∃ W, W = V := ⟨V, rfl⟩
 subst hW0
 refine CallR.of Try.func62 rfl rfl rfl rfl (Cw.seq (Cw.region (Lw.g (.slice none 0 0) rfl (Lw.nil (Cw.seq (Cw.region (Lw.g (.slice none 0 0) rfl (Lw.nil (Cw.seq (Cw.seq (Cw.region (Lw.m v0_ rfl (Lw.ln x0 h0 rfl (Lw.m (vI 0) rfl (Lw.nil (Cw.block ?_))))))))))))))))
 obtain ⟨K7, hK7, hm⟩ := jn_e hm
 refine Cw.loop 8 17 [3, 5, 8] (fun m l w => ∃ (y1 : List Vm.Memo) (y5 : Int) (v2 j4 : Value) (W6 : CW), W6.w = w ∧ Le [2, 3, 4, 5, 6, 7] W0 W6 ∧ l = [v2, j4, vI y5] ∧ Ow W6 2 [] [v2] y1 ∧ Vm.impl_ownMemos_l1 x0 K7 m y1 y5 = some r) (((x0.length : Int) - 0).toNat + 1) ⟨([] : List Memo), 0, .slice none 0 0, undef, W0, rfl, Le.refl _ _, rfl, owN 2 [], hm⟩ ?_
 rintro m8 _ _ σ ⟨y1, y5, v2, j4, W6, rfl, l6, rfl, o3, hm⟩
 obtain _ | m8 := m8
 ·cases hm
 unfold Vm.impl_ownMemos_l1 at hm
 have a9 := l6.s rfl
 refine Cw.seq (Cw.region (Lw.lt rfl (Lw.nil (Cw.seq (Cw.cond (b := decide ((y5 : Int) < ((x0.length : Int) : Int))) rfl (fun hc10 => ?_) (fun hc10 => ?_))))))
 ·replace hm := bt hm hc10
  refine Cw.skip (Cw.seq (Cw.block (Cw.seq (Cw.region ?_))))
  obtain ⟨u11, e12, hm⟩ := ob hm
  refine Lw.r rfl (R.ix (α := Memo) (h0.ul a9) e12 rfl rfl rfl) ?_
  obtain ⟨x14, c15, _, r16⟩ := ((h0.ul a9).at_ e12).cells
  obtain ⟨v17, v19, v21, v23, rfl, r18, r20, r22, r24⟩ := Memo.split r16
  refine Lw.r rfl (R.lda c15 rfl rfl) (Lw.t rfl (T.alloc 3 (cs := [.slice none 0 0, .slice none 0 0, .slice none 0 0, .slice none 0 0]) rfl) ?_)
  rintro _ _ ⟨g25, W25, rfl, rfl, l25, b25⟩
  have a26 := l25.o
  refine Lw.u (T.sta (vs := [v17, v19, v21, v23]) b25 rfl rfl (oc_cons r18.oc (oc_cons r20.oc (oc_cons r22.oc (oc_cons r24.oc oc_nil)))) rfl rfl) ?_
  rintro _ _ ⟨W28, rfl, l28, b28⟩
  have a29 := a26.t l28 rfl
  refine Lw.nil (Cw.region (Lw.m v2 rfl (Lw.r rfl (R.lda (cs := [v17, v19, v21, v23]) b28.cells rfl rfl) ?_)))
  obtain ⟨z35, e36, hm⟩ := ob hm
  refine Lw.t rfl (T.call rfl (p61 (K := [0]) (k0 := 4) (k1 := 5) (k2 := 6) (k3 := 7) (Memo.rd (K := [0]) u11.Old u11.One u11.Two u11.Done (r18.ul a29) (r20.ul a29) (r22.ul a29) (r24.ul a29)) e36)) ?_
  rintro _ _ ⟨W37, rfl, l37, ⟨v0_0_37, v0_1_37, v0_2_37, v0_3_37, rfl, f37_0, f37_1, f37_2, f37_3⟩⟩
  refine Lw.t rfl (T.bs 8 [.agg [v0_0_37, v0_1_37, v0_2_37, v0_3_37].toArray] (cs := [v0_0_37, v0_1_37, v0_2_37, v0_3_37]) rfl rfl (bsA rfl)) ?_
  rintro _ _ ⟨g41, W41, rfl, rfl, l41, b41⟩
  obtain ⟨q49, e50, hm⟩ := ob hm
  refine Lw.t rfl (T.app1 (α := Memo) (J := [4, 5, 6, 7]) (K' := []) ((((o3.up l25 rfl).up l28 rfl).up l37 rfl).up l41 rfl) b41 (Memo.own z35.Old z35.One z35.Two z35.Done (f37_0.up l41 rfl).s (f37_1.up l41 rfl).s (f37_2.up l41 rfl).s (f37_3.up l41 rfl).s) rfl rfl e50) ?_
  rintro v51 _ ⟨W51, rfl, l51, o51⟩
  refine Lw.g v51 rfl (Lw.nil (Cw.region (Lw.add rfl (Lw.m (vI (w64 (y5 + 1))) rfl (Lw.nil (⟨?_, m8, Nat.lt_succ_self m8, ⟨q49, w64 (y5 + 1), v51, ptr (bx g25), W51, rfl, (l6.trans ((l25.sub rfl).trans ((l28.sub rfl).trans ((l37.sub rfl).trans ((l41.sub rfl).trans (l51.sub rfl)))))), rfl, o51, hm⟩⟩))))))
  iterate 12 (refine Agree.up rfl ?_)
  iterate 3 (refine Agree.up rfl ?_)
  exact Agree.base
 ·replace hm := bf hm hc10
  refine Cw.exit ?_
  rw [hK7] at hm
  refine Cw.seq (Cw.region (Lw.m v2 rfl (Lw.g v2 rfl (Lw.nil ?_))))
  cases hm
  exact Cw.ret (ret1 rfl (Res.mk a9 ⟨v2, rfl, o3.s.sub rfl rfl⟩))

theorem p62 {W : CW} {K : List Nat} {x0 : List Vm.Memo} {v0_ : Value} {k0 : Nat} {r : (List Vm.Memo)} (h0 : Rd W K [v0_] x0) (hm : Vm.impl_ownMemos x0 = some r) : CallR Try.prog 62 [v0_].toArray W.w (Res W [] fun W' v => ∃ (u0 : Value), v = u0 ∧ Ow W' k0 [] [u0] r) :=
 (c62 (V := W.view K []) (h0.view _) hm).ad (fk k0) fun _ _ ⟨u0, e, f0⟩ => ⟨u0, e, f0.back (fk_LL _)⟩

theorem c18 {V : CW} {x0 : List Vm.Memo} {v0_ : Value} {x1 : Vm.Memo} {v1_0_ : Value} {v1_1_ : Value} {v1_2_ : Value} {v1_3_ : Value} {r : (List Vm.Memo) × Bool} (h0 : Rd V [0] [v0_] x0) (h1 : Rd V [0] [v1_0_, v1_1_, v1_2_, v1_3_] x1) (hm : Vm.impl_MemoPut x0 x1 = some r) : CallR Try.prog 18 [v0_, .agg [v1_0_, v1_1_, v1_2_, v1_3_].toArray].toArray V.w (Res V LL fun Wf v => ∃ (u0 : Value), v = .tuple [u0, vB r.2].toArray ∧ OwS Wf LL [] [u0] r.1) := by
 unfold Vm.impl_MemoPut at hm
 obtain ⟨w1_0, w1_1, w1_2, w1_3, he1, h1_0, h1_1, h1_2, h1_3⟩ := Memo.split h1
 simp only [List.cons.injEq, and_true, true_and] at he1
 obtain ⟨rfl, rfl, rfl, rfl⟩ := he1
 obtain ⟨W0, hW0⟩ : ∃ W, W = V := ⟨V, rfl⟩
 subst hW0
 refine CallR.of Try.func18 rfl rfl rfl rfl (Cw.seq (Cw.region (Lw.t rfl (T.box 2 (v := .agg [v1_0_, v1_1_, v1_2_, v1_3_].toArray) (cs := [v1_0_, v1_1_, v1_2_, v1_3_]) rfl rfl) ?_)))
 rintro _ _ ⟨g1, W1, rfl, rfl, l1, b1⟩
 have a2 := l1.o
 refine Lw.g (.slice none 0 0) rfl (Lw.g (vB false) rfl (Lw.nil (Cw.seq (Cw.seq (Cw.region (Lw.m v0_ rfl ?_))))))
 obtain ⟨z4, e5, hm⟩ := ob hm
 refine Lw.t rfl (T.call rfl (p15 (K := [0])  (h0.ul a2) e5)) ?_
 rintro _ _ ⟨W6, rfl, l6, rfl⟩
 have a7 := a2.n l6
 refine Lw.r rfl (R.not rfl) (Lw.nil (Cw.cond (b := (!z4)) rfl (fun hc9 => ?_) (fun hc9 => ?_)))
 ·replace hm := bt hm hc9
  refine Cw.seq (Cw.region (Lw.g (.slice none 0 0) rfl (Lw.g (vB false) rfl (Lw.nil ?_))))
  cases hm
  exact Cw.ret (ret2 rfl rfl (Res.mk a7 ⟨.slice none 0 0, rfl, (owsN []).sub rfl rfl⟩))
 ·replace hm := bf hm hc9
  refine Cw.skip (Cw.seq (Cw.region (Lw.g (.slice none 0 0) rfl (Lw.nil (Cw.seq (Cw.seq (Cw.region (Lw.m v0_ rfl (Lw.ln x0 (h0.ul a7) rfl (Lw.m (vI 0) rfl (Lw.nil (Cw.block ?_))))))))))))
  obtain ⟨K17, hK17, hm⟩ := jn_e hm
  refine Cw.loop 14 32 [6, 8, 14] (fun m l w => ∃ (y11 : List Vm.Memo) (y15 : Int) (v12 j14 : Value) (W16 : CW), W16.w = w ∧ Le [3, 4, 5, 6, 7, 8] W6 W16 ∧ l = [v12, j14, vI y15] ∧ Ow W16 3 [] [v12] y11 ∧ Vm.impl_MemoPut_l1 x0 x1 K17 m y11 y15 = some r) (((x0.length : Int) - 0).toNat + 1) ⟨([] : List Memo), 0, .slice none 0 0, undef, W6, rfl, Le.refl _ _, rfl, owN 3 [], hm⟩ ?_
  rintro m18 _ _ σ ⟨y11, y15, v12, j14, W16, rfl, l16, rfl, o13, hm⟩
  obtain _ | m18 := m18
  ·cases hm
  unfold Vm.impl_MemoPut_l1 at hm
  have a19 := a7.t l16 rfl
  have b20 := (b1.up l6 rfl).up l16 rfl
  refine Cw.seq (Cw.region (Lw.lt rfl (Lw.nil (Cw.seq (Cw.cond (b := decide ((y15 : Int) < ((x0.length : Int) : Int))) rfl (fun hc21 => ?_) (fun hc21 => ?_))))))
  ·replace hm := bt hm hc21
   refine Cw.skip ?_
   obtain ⟨K27, hK27, hm⟩ := jn_e hm
   refine Cw.join 16 31 [6, 8] (fun l w => ∃ (y22 : List Vm.Memo) (v23 j25 : Value) (W26 : CW), W26.w = w ∧ Le [3, 4, 5, 6, 7, 8] W16 W26 ∧ l = [v23, j25] ∧ Ow W26 3 [] [v23] y22 ∧ K27 y22 = some r) ?_ ?_
   ·rintro _ _ σ ⟨y22, v23, j25, W26, rfl, l26, rfl, o24, hm⟩
    rw [hK27] at hm
    refine Cw.region (Lw.add rfl (Lw.m (vI (w64 (y15 + 1))) rfl (Lw.nil (⟨?_, m18, Nat.lt_succ_self m18, ⟨y22, w64 (y15 + 1), v23, j25, W26, rfl, (l16.trans l26), rfl, o24, hm⟩⟩))))
    iterate 2 (refine Agree.up rfl ?_)
    iterate 2 (refine Agree.up rfl ?_)
    refine Agree.ov0 rfl ?_
    iterate 1 (refine Agree.up rfl ?_)
    iterate 3 (refine Agree.up rfl ?_)
    exact Agree.base
   ·refine Cw.block (Cw.seq (Cw.region ?_))
    obtain ⟨u30, e31, hm⟩ := ob hm
    refine Lw.r rfl (R.ix (α := Memo) (h0.ul a19) e31 rfl rfl rfl) ?_
    obtain ⟨x33, c34, _, r35⟩ := ((h0.ul a19).at_ e31).cells
    obtain ⟨v36, v38, v40, v42, rfl, r37, r39, r41, r43⟩ := Memo.split r35
    refine Lw.r rfl (R.lda c34 rfl rfl) (Lw.t rfl (T.alloc 4 (cs := [.slice none 0 0, .slice none 0 0, .slice none 0 0, .slice none 0 0]) rfl) ?_)
    rintro _ _ ⟨g44, W44, rfl, rfl, l44, b44⟩
    have a45 := l44.o
    refine Lw.u (T.sta (vs := [v36, v38, v40, v42]) b44 rfl rfl (oc_cons r37.oc (oc_cons r39.oc (oc_cons r41.oc (oc_cons r43.oc oc_nil)))) rfl rfl) ?_
    rintro _ _ ⟨W48, rfl, l48, b48⟩
    have a49 := l48.s rfl
    have b51 := (b20.up l44 rfl).up l48 rfl
    refine Lw.nil (Cw.seq (Cw.region (Lw.r rfl (R.lda (cs := [v36, v38, v40, v42]) b48.cells rfl rfl) (Lw.fa rfl (Lw.r rfl (R.ld (v := v1_0_) rfl rfl (b51.cell rfl)) (Lw.fa rfl (Lw.r rfl (R.ld (v := v1_1_) rfl rfl (b51.cell rfl)) (Lw.fa rfl (Lw.r rfl (R.ld (v := v1_2_) rfl rfl (b51.cell rfl)) ?_)))))))))
    obtain ⟨z59, e60, hm⟩ := ob hm
    refine Lw.t rfl (T.call rfl (p57 (K := [0])  (Memo.rd (K := [0]) u30.Old u30.One u30.Two u30.Done (r37.ul (a45.trans a49)) (r39.ul (a45.trans a49)) (r41.ul (a45.trans a49)) (r43.ul (a45.trans a49))) (h1_0.ul ((a19.trans a45).trans a49)) (h1_1.ul ((a19.trans a45).trans a49)) (h1_2.ul ((a19.trans a45).trans a49)) e60)) ?_
    rintro _ _ ⟨W61, rfl, l61, rfl⟩
    have a62 := (a45.trans a49).n l61
    have o63 := ((o13.up l44 rfl).up l48 rfl).up l61 rfl
    refine Lw.r rfl (R.not rfl) (Lw.nil (Cw.cond (b := (!z59)) rfl (fun hc66 => ?_) (fun hc66 => ?_)))
    ·replace hm := bt hm hc66
     refine Cw.region (Lw.m v12 rfl (Lw.r rfl (R.lda (cs := [v36, v38, v40, v42]) (b48.up l61 rfl).cells rfl rfl) ?_))
     obtain ⟨z71, e72, hm⟩ := ob hm
     refine Lw.t rfl (T.call rfl (p61 (K := [0]) (k0 := 5) (k1 := 6) (k2 := 7) (k3 := 8) (Memo.rd (K := [0]) u30.Old u30.One u30.Two u30.Done (r37.ul a62) (r39.ul a62) (r41.ul a62) (r43.ul a62)) e72)) ?_
     rintro _ _ ⟨W73, rfl, l73, ⟨v0_0_73, v0_1_73, v0_2_73, v0_3_73, rfl, f73_0, f73_1, f73_2, f73_3⟩⟩
     refine Lw.t rfl (T.bs 9 [.agg [v0_0_73, v0_1_73, v0_2_73, v0_3_73].toArray] (cs := [v0_0_73, v0_1_73, v0_2_73, v0_3_73]) rfl rfl (bsA rfl)) ?_
     rintro _ _ ⟨g78, W78, rfl, rfl, l78, b78⟩
     obtain ⟨q87, e88, hm⟩ := ob hm
     refine Lw.t rfl (T.app1 (α := Memo) (J := [5, 6, 7, 8]) (K' := []) ((o63.up l73 rfl).up l78 rfl) b78 (Memo.own z71.Old z71.One z71.Two z71.Done (f73_0.up l78 rfl).s (f73_1.up l78 rfl).s (f73_2.up l78 rfl).s (f73_3.up l78 rfl).s) rfl rfl e88) ?_
     rintro v89 _ ⟨W89, rfl, l89, o89⟩
     refine Lw.g v89 rfl (Lw.nil (⟨?_, ⟨q87, v89, ptr (bx g44), W89, rfl, ((l44.sub rfl).trans ((l48.sub rfl).trans ((l61.sub rfl).trans ((l73.sub rfl).trans ((l78.sub rfl).trans (l89.sub rfl)))))), rfl, o89, hm⟩⟩))
     iterate 18 (refine Agree.up rfl ?_)
     exact Agree.refl _
    ·replace hm := bf hm hc66
     refine Cw.skip (⟨?_, ⟨y11, v12, ptr (bx g44), W61, rfl, ((l44.sub rfl).trans ((l48.sub rfl).trans (l61.sub rfl))), rfl, o63, hm⟩⟩)
     iterate 12 (refine Agree.up rfl ?_)
     exact Agree.refl _
  ·replace hm := bf hm hc21
   refine Cw.exit ?_
   rw [hK17] at hm
   refine Cw.seq (Cw.region (Lw.m v12 rfl (Lw.r rfl (R.lda (cs := [v1_0_, v1_1_, v1_2_, v1_3_]) b20.cells rfl rfl) ?_)))
   obtain ⟨z98, e99, hm⟩ := ob hm
   refine Lw.t rfl (T.call rfl (p61 (K := [0]) (k0 := 10) (k1 := 11) (k2 := 12) (k3 := 13) (Memo.rd (K := [0]) x1.Old x1.One x1.Two x1.Done (h1_0.ul a19) (h1_1.ul a19) (h1_2.ul a19) (h1_3.ul a19)) e99)) ?_
   rintro _ _ ⟨W100, rfl, l100, ⟨v0_0_100, v0_1_100, v0_2_100, v0_3_100, rfl, f100_0, f100_1, f100_2, f100_3⟩⟩
   have a101 := a19.n l100
   refine Lw.t rfl (T.bs 14 [.agg [v0_0_100, v0_1_100, v0_2_100, v0_3_100].toArray] (cs := [v0_0_100, v0_1_100, v0_2_100, v0_3_100]) rfl rfl (bsA rfl)) ?_
   rintro _ _ ⟨g104, W104, rfl, rfl, l104, b104⟩
   have a105 := a101.n l104
   obtain ⟨q112, e113, hm⟩ := ob hm
   refine Lw.t rfl (T.app1 (α := Memo) (J := [10, 11, 12, 13]) (K' := []) ((o13.up l100 rfl).up l104 rfl) b104 (Memo.own z98.Old z98.One z98.Two z98.Done (f100_0.up l104 rfl).s (f100_1.up l104 rfl).s (f100_2.up l104 rfl).s (f100_3.up l104 rfl).s) rfl rfl e113) ?_
   rintro v114 _ ⟨W114, rfl, l114, o114⟩
   have a115 := a105.t l114 rfl
   refine Lw.g v114 rfl (Lw.nil (Cw.seq (Cw.seq (Cw.region (Lw.m v114 rfl ?_)))))
   obtain ⟨z118, e119, hm⟩ := ob hm
   refine Lw.t rfl (T.call rfl (p15 (K := [3])  o114.rd e119)) ?_
   rintro _ _ ⟨W120, rfl, l120, rfl⟩
   have a121 := a115.n l120
   refine Lw.r rfl (R.not rfl) (Lw.nil (Cw.cond (b := (!z118)) rfl (fun hc125 => ?_) (fun hc125 => ?_)))
   ·replace hm := bt hm hc125
    refine Cw.seq (Cw.region (Lw.m v0_ rfl ?_))
    obtain ⟨z127, e128, hm⟩ := ob hm
    refine Lw.t rfl (T.call rfl (p62 (K := [0]) (k0 := 15) (h0.ul a121) e128)) ?_
    rintro v0_129 _ ⟨W129, rfl, l129, ⟨_, rfl, f129_0⟩⟩
    have a130 := a121.n l129
    refine Lw.g v0_129 rfl (Lw.g (vB false) rfl (Lw.nil ?_))
    cases hm
    exact Cw.ret (ret2 rfl rfl (Res.mk a130 ⟨v0_129, rfl, f129_0.s.sub rfl rfl⟩))
   ·replace hm := bf hm hc125
    refine Cw.skip (Cw.seq (Cw.region (Lw.m v114 rfl (Lw.g v114 rfl (Lw.g (vB true) rfl (Lw.nil ?_))))))
    cases hm
    exact Cw.ret (ret2 rfl rfl (Res.mk a121 ⟨v114, rfl, (o114.up l120 rfl).s.sub rfl rfl⟩))

theorem p18 {W : CW} {K : List Nat} {x0 : List Vm.Memo} {v0_ : Value} {x1 : Vm.Memo} {v1_0_ : Value} {v1_1_ : Value} {v1_2_ : Value} {v1_3_ : Value} {k0 : Nat} {r : (List Vm.Memo) × Bool} (h0 : Rd W K [v0_] x0) (h1 : Rd W K [v1_0_, v1_1_, v1_2_, v1_3_] x1) (hm : Vm.impl_MemoPut x0 x1 = some r) : CallR Try.prog 18 [v0_, .agg [v1_0_, v1_1_, v1_2_, v1_3_].toArray].toArray W.w (Res W [] fun W' v => ∃ (u0 : Value), v = .tuple [u0, vB r.2].toArray ∧ Ow W' k0 [] [u0] r.1) :=
 (c18 (V := W.view K []) (h0.view _) (h1.view _) hm).ad (fk k0) fun _ _ ⟨u0, e, f0⟩ => ⟨u0, e, f0.back (fk_LL _)⟩

theorem c39 {V : CW} {x0 : List Str} {v0_ : Value} {x1 : List Str} {v1_ : Value} {r : Bool} (h0 : Rd V [0] [v0_] x0) (h1 : Rd V [0] [v1_] x1) (hm : Vm.laws_smTexts x0 x1 = some r) : CallR Try.prog 39 [v0_, v1_].toArray V.w (Res V LL fun Wf v => v = vB r) := by
 unfold Vm.laws_smTexts at hm
 obtain ⟨W0, hW0⟩ : ∃ W, W = V := ⟨V, rfl⟩
 subst hW0
 refine CallR.of Try.func39 rfl rfl rfl rfl (Cw.seq (Cw.region (Lw.g (vB false) rfl (Lw.nil (Cw.seq (Cw.seq (Cw.region (Lw.m v0_ rfl (Lw.ln x0 h0 rfl (Lw.m v1_ rfl (Lw.ln x1 h1 rfl (Lw.ne rfl (Lw.nil (Cw.cond (b := (((x0.length : Int) : Int) != ((x1.length : Int) : Int))) rfl (fun hc1 => ?_) (fun hc1 => ?_)))))))))))))))
 ·replace hm := bt hm hc1
  refine Cw.seq (Cw.region (Lw.g (vB false) rfl (Lw.nil ?_)))
  cases hm
  exact Cw.ret (ret1 rfl (Res.mk (Le.refl _ _) rfl))
 ·replace hm := bf hm hc1
  refine Cw.skip (Cw.seq (Cw.seq (Cw.region (Lw.g (vI 0) rfl (Lw.nil (Cw.block ?_))))))
  obtain ⟨K5, hK5, hm⟩ := jn_e hm
  refine Cw.loop 11 25 [4, 5] (fun m l w => ∃ (y2 : Bool) (y3 : Int) (W4 : CW), W4.w = w ∧ Le [] W0 W4 ∧ l = [vB y2, vI y3] ∧ Vm.laws_smTexts_l1 x0 x1 K5 m y2 y3 = some r) (((x0.length : Int) - 0).toNat + 1) ⟨false, 0, W0, rfl, Le.refl _ _, rfl, hm⟩ ?_
  rintro m6 _ _ σ ⟨y2, y3, W4, rfl, l4, rfl, hm⟩
  obtain _ | m6 := m6
  ·cases hm
  unfold Vm.laws_smTexts_l1 at hm
  have a7 := l4.o
  refine Cw.seq (Cw.seq (Cw.region (Lw.m (vI y3) rfl (Lw.m v0_ rfl (Lw.ln x0 (h0.ul a7) rfl (Lw.lt rfl (Lw.nil (Cw.cond (b := decide ((y3 : Int) < ((x0.length : Int) : Int))) rfl (fun hc9 => ?_) (fun hc9 => ?_)))))))))
  ·replace hm := bt hm hc9
   refine Cw.skip (Cw.seq (Cw.block (Cw.seq (Cw.draw [] [(0, 0), (1, 0), (2, 0), (3, 1), (4, 0), (5, 0), (6, 0), (7, 1), (8, 0)] mixed (by kernel_rfl) fun W10 l10 => ?_))))
   have a11 := a7.n l10
   refine Mw.p rfl rfl (fun _ => R.mv (v := v0_) rfl) (Mw.p rfl rfl (fun _ => R.mv (v := vI y3) rfl) ?_)
   obtain ⟨u12, e13, hm⟩ := ob hm
   refine Mw.p rfl rfl (fun _ => R.ix (α := Str) (h0.ul a11) e13 rfl rfl rfl) (Mw.q rfl rfl (fun _ c => R.ld rfl rfl (cl_cell ((h0.ul a11).at_ e13).1 rfl ((h0.ul a11).at_ e13).str c)) (Mw.p rfl rfl (fun _ => R.mv (v := v1_) rfl) (Mw.p rfl rfl (fun _ => R.mv (v := vI y3) rfl) ?_)))
   obtain ⟨u15, e16, hm⟩ := ob hm
   refine Mw.p rfl rfl (fun _ => R.ix (α := Str) (h1.ul a11) e16 rfl rfl rfl) (Mw.q rfl rfl (fun _ c => R.ld rfl rfl (cl_cell ((h1.ul a11).at_ e16).1 rfl ((h1.ul a11).at_ e16).str c)) (Mw.p rfl rfl (fun _ => R.sne rfl rfl) (Mw.nil (Cw.cond (b := (u12 != u15)) rfl (fun hc18 => ?_) (fun hc18 => ?_)))))
   ·replace hm := bt hm hc18
    refine Cw.seq (Cw.region (Lw.g (vB false) rfl (Lw.nil ?_)))
    cases hm
    exact Cw.ret (ret1 rfl (Res.mk a11 rfl))
   ·replace hm := bf hm hc18
    refine Cw.skip (Cw.region (Lw.m (vI y3) rfl (Lw.add rfl (Lw.g (vI (w64 (y3 + 1))) rfl (Lw.nil (⟨?_, m6, Nat.lt_succ_self m6, ⟨y2, w64 (y3 + 1), W10, rfl, (l4.trans l10), rfl, hm⟩⟩))))))
    iterate 16 (refine Agree.up rfl ?_)
    iterate 2 (refine Agree.up rfl ?_)
    exact Agree.base
  ·replace hm := bf hm hc9
   refine Cw.exit ?_
   rw [hK5] at hm
   refine Cw.seq (Cw.region (Lw.g (vB true) rfl (Lw.nil ?_)))
   cases hm
   exact Cw.ret (ret1 rfl (Res.mk a7 rfl))

theorem p39 {W : CW} {K : List Nat} {x0 : List Str} {v0_ : Value} {x1 : List Str} {v1_ : Value} {r : Bool} (h0 : Rd W K [v0_] x0) (h1 : Rd W K [v1_] x1) (hm : Vm.laws_smTexts x0 x1 = some r) : CallR Try.prog 39 [v0_, v1_].toArray W.w (Res W [] fun W' v => v = vB r) :=
 (c39 (V := W.view K []) (h0.view _) (h1.view _) hm).ad (fk 0) fun _ _ e => e

theorem c20 {V : CW} {x0 : List Vm.Memo} {v0_ : Value} {x1 : List Vm.Memo} {v1_ : Value} {r : Bool} (h0 : Rd V [0] [v0_] x0) (h1 : Rd V [0] [v1_] x1) (hm : Vm.laws_smMemos x0 x1 = some r) : CallR Try.prog 20 [v0_, v1_].toArray V.w (Res V LL fun Wf v => v = vB r) := by
 unfold Vm.laws_smMemos at hm
 obtain ⟨W0, hW0⟩ : ∃ W, W = V := ⟨V, rfl⟩
 subst hW0
 refine CallR.of Try.func20 rfl rfl rfl rfl (Cw.seq (Cw.region (Lw.g (vB false) rfl (Lw.nil (Cw.seq (Cw.seq (Cw.region (Lw.m v0_ rfl (Lw.ln x0 h0 rfl (Lw.m v1_ rfl (Lw.ln x1 h1 rfl (Lw.ne rfl (Lw.nil (Cw.cond (b := (((x0.length : Int) : Int) != ((x1.length : Int) : Int))) rfl (fun hc1 => ?_) (fun hc1 => ?_)))))))))))))))
 ·replace hm := bt hm hc1
  refine Cw.seq (Cw.region (Lw.g (vB false) rfl (Lw.nil ?_)))
  cases hm
  exact Cw.ret (ret1 rfl (Res.mk (Le.refl _ _) rfl))
 ·replace hm := bf hm hc1
  refine Cw.skip (Cw.seq (Cw.seq (Cw.region (Lw.g (vI 0) rfl (Lw.nil (Cw.block ?_))))))
  obtain ⟨K5, hK5, hm⟩ := jn_e hm
  refine Cw.loop 11 70 [4, 5] (fun m l w => ∃ (y2 : Bool) (y3 : Int) (W4 : CW), W4.w = w ∧ Le [] W0 W4 ∧ l = [vB y2, vI y3] ∧ Vm.laws_smMemos_l1 x0 x1 K5 m y2 y3 = some r) (((x0.length : Int) - 0).toNat + 1) ⟨false, 0, W0, rfl, Le.refl _ _, rfl, hm⟩ ?_
  rintro m6 _ _ σ ⟨y2, y3, W4, rfl, l4, rfl, hm⟩
  obtain _ | m6 := m6
  ·cases hm
  unfold Vm.laws_smMemos_l1 at hm
  have a7 := l4.o
  refine Cw.seq (Cw.seq (Cw.region (Lw.m (vI y3) rfl (Lw.m v0_ rfl (Lw.ln x0 (h0.ul a7) rfl (Lw.lt rfl (Lw.nil (Cw.cond (b := decide ((y3 : Int) < ((x0.length : Int) : Int))) rfl (fun hc9 => ?_) (fun hc9 => ?_)))))))))
  ·replace hm := bt hm hc9
   refine Cw.skip (Cw.seq (Cw.block ?_))
   obtain ⟨K12, hK12, hm⟩ := jn_e hm
   refine Cw.join 17 70 [70] (fun l w => ∃ (y10 : Bool) (W11 : CW), W11.w = w ∧ Le [] W4 W11 ∧ l = [vB y10] ∧ K12 y10 = some r) ?_ ?_
   ·rintro _ _ σ ⟨y10, W11, rfl, l11, rfl, hm⟩
    rw [hK12] at hm
    have a13 := a7.n l11
    refine Cw.cond (b := y10) rfl (fun hc14 => ?_) (fun hc14 => ?_)
    ·replace hm := bt hm hc14
     refine Cw.seq (Cw.region (Lw.g (vB false) rfl (Lw.nil ?_)))
     cases hm
     exact Cw.ret (ret1 rfl (Res.mk a13 rfl))
    ·replace hm := bf hm hc14
     refine Cw.skip (Cw.region (Lw.m (vI y3) rfl (Lw.add rfl (Lw.g (vI (w64 (y3 + 1))) rfl (Lw.nil (⟨?_, m6, Nat.lt_succ_self m6, ⟨y2, w64 (y3 + 1), W11, rfl, (l4.trans l11), rfl, hm⟩⟩))))))
     iterate 3 (refine Agree.up rfl ?_)
     iterate 1 (refine Agree.up rfl ?_)
     refine Agree.ov0 rfl ?_
     iterate 4 (refine Agree.up rfl ?_)
     iterate 2 (refine Agree.up rfl ?_)
     exact Agree.base
   ·refine Cw.draw [] [(0, 0), (1, 0), (2, 0), (3, 0), (4, 1), (5, 0), (6, 0), (7, 0), (8, 0), (9, 1), (10, 2), (11, 0), (12, 0), (13, 0), (14, 0), (15, 0), (16, 0), (17, 1), (18, 0), (19, 0), (20, 0), (21, 0), (22, 1), (23, 2), (24, 0), (25, 0), (26, 0), (27, 0), (28, 0), (29, 0), (30, 0), (31, 1), (32, 0), (33, 0), (34, 0), (35, 0), (36, 1), (37, 2), (38, 0), (39, 0), (40, 0), (41, 0), (42, 0), (43, 0), (44, 0), (45, 1), (46, 0), (47, 0), (48, 0), (49, 0), (50, 1), (51, 2), (52, 0), (53, 0)] mixed (by kernel_rfl) fun W15 l15 => ?_
    have a16 := a7.n l15
    refine Mw.p rfl rfl (fun _ => R.mv (v := v0_) rfl) (Mw.p rfl rfl (fun _ => R.mv (v := vI y3) rfl) ?_)
    obtain ⟨u17, e18, hm⟩ := ob hm
    have s19 := h0.ul a16
    refine Mw.p rfl rfl (fun _ => R.ix (α := Memo) s19 e18 rfl rfl rfl) (Mw.p rfl rfl (fun _ => R.fa rfl) ?_)
    obtain ⟨v20, c21, r22⟩ := (Memo.at0 (s19.at_ e18)).cell rfl
    refine Mw.q rfl rfl (fun _ c => R.ld rfl rfl (cl_cell (Memo.at0 (s19.at_ e18)).1 rfl c21 c)) (Mw.p rfl rfl (fun _ => R.mv (v := v1_) rfl) (Mw.p rfl rfl (fun _ => R.mv (v := vI y3) rfl) ?_))
    obtain ⟨u23, e24, hm⟩ := ob hm
    have s25 := h1.ul a16
    refine Mw.p rfl rfl (fun _ => R.ix (α := Memo) s25 e24 rfl rfl rfl) (Mw.p rfl rfl (fun _ => R.fa rfl) ?_)
    obtain ⟨v26, c27, r28⟩ := (Memo.at0 (s25.at_ e24)).cell rfl
    refine Mw.q rfl rfl (fun _ c => R.ld rfl rfl (cl_cell (Memo.at0 (s25.at_ e24)).1 rfl c27 c)) ?_
    obtain ⟨z29, e30, hm⟩ := ob hm
    refine Mw.t rfl rfl (T.call rfl (p39 (K := [0])  r22 r28 e30)) ?_
    rintro _ _ ⟨W31, rfl, l31, rfl⟩
    have a32 := l31.o
    refine ⟨⟨_, rfl, (l31.sub (M := []) rfl)⟩, ?_⟩
    refine Mw.p rfl rfl (fun _ => R.not rfl) (Mw.p rfl rfl (fun _ => R.mv (v := vB (!z29)) rfl) (bsplit (!z29) (fun hc33 => ?_) (fun hc33 => ?_)))
    ·replace hm := bt hm hc33
     refine Mw.pass' hc33 rfl rfl rfl rfl rfl rfl (Mw.pass' hc33 rfl rfl rfl rfl rfl rfl (Mw.pass' hc33 rfl rfl rfl rfl rfl rfl (Mw.pass' hc33 rfl rfl rfl rfl rfl rfl (Mw.pass' hc33 rfl rfl rfl rfl rfl rfl (Mw.pass' hc33 rfl rfl rfl rfl rfl rfl (Mw.pass' hc33 rfl rfl rfl rfl rfl rfl (Mw.pass' hc33 rfl rfl rfl rfl rfl rfl (Mw.pass' hc33 rfl rfl rfl rfl rfl rfl (Mw.pass' hc33 rfl rfl rfl rfl rfl rfl (Mw.pass' hc33 rfl rfl rfl rfl rfl rfl (Mw.pass' hc33 rfl rfl rfl rfl rfl rfl (Mw.p rfl rfl (fun _ => R.pk hc33 rfl (v := vB true) rfl) (Mw.p rfl rfl (fun _ => R.mv (v := vB true) rfl) (Mw.pass' rfl rfl rfl rfl rfl rfl rfl (Mw.pass' rfl rfl rfl rfl rfl rfl rfl (Mw.pass' rfl rfl rfl rfl rfl rfl rfl (Mw.pass' rfl rfl rfl rfl rfl rfl rfl (Mw.pass' rfl rfl rfl rfl rfl rfl rfl (Mw.pass' rfl rfl rfl rfl rfl rfl rfl (Mw.pass' rfl rfl rfl rfl rfl rfl rfl (Mw.pass' rfl rfl rfl rfl rfl rfl rfl (Mw.pass' rfl rfl rfl rfl rfl rfl rfl (Mw.pass' rfl rfl rfl rfl rfl rfl rfl (Mw.pass' rfl rfl rfl rfl rfl rfl rfl (Mw.pass' rfl rfl rfl rfl rfl rfl rfl (Mw.p rfl rfl (fun _ => R.pk rfl rfl (v := vB true) rfl) (Mw.p rfl rfl (fun _ => R.mv (v := vB true) rfl) (Mw.pass' rfl rfl rfl rfl rfl rfl rfl (Mw.pass' rfl rfl rfl rfl rfl rfl rfl (Mw.pass' rfl rfl rfl rfl rfl rfl rfl (Mw.pass' rfl rfl rfl rfl rfl rfl rfl (Mw.pass' rfl rfl rfl rfl rfl rfl rfl (Mw.pass' rfl rfl rfl rfl rfl rfl rfl (Mw.pass' rfl rfl rfl rfl rfl rfl rfl ?_))))))))))))))))))))))))))))))))))
     refine Mw.pass' rfl rfl rfl rfl rfl rfl rfl (Mw.pass' rfl rfl rfl rfl rfl rfl rfl (Mw.pass' rfl rfl rfl rfl rfl rfl rfl (Mw.pass' rfl rfl rfl rfl rfl rfl rfl (Mw.pass' rfl rfl rfl rfl rfl rfl rfl (Mw.p rfl rfl (fun _ => R.pk rfl rfl (v := vB true) rfl) (Mw.nil (⟨?_, ⟨true, W31, rfl, (l15.trans l31), rfl, hm⟩⟩)))))))
     iterate 54 (refine Agree.up rfl ?_)
     exact Agree.refl _
    ·replace hm := bf hm hc33
     refine Mw.gp hc33 rfl rfl rfl rfl rfl (fun _ => R.mv (v := v0_) rfl) (Mw.gp hc33 rfl rfl rfl rfl rfl (fun _ => R.mv (v := vI y3) rfl) ?_)
     obtain ⟨u34, e35, hm⟩ := ob hm
     refine Mw.gp hc33 rfl rfl rfl rfl rfl (fun _ => R.ix (α := Memo) s19 e35 rfl rfl rfl) (Mw.gp hc33 rfl rfl rfl rfl rfl (fun _ => R.fa rfl) ?_)
     obtain ⟨v36, c37, r38⟩ := (Memo.at1 (s19.at_ e35)).cell rfl
     refine Mw.gq hc33 rfl rfl rfl rfl rfl (fun _ c => R.ld rfl rfl (cl_cell (Memo.at1 (s19.at_ e35)).1 rfl c37 c)) (Mw.gp hc33 rfl rfl rfl rfl rfl (fun _ => R.mv (v := v1_) rfl) (Mw.gp hc33 rfl rfl rfl rfl rfl (fun _ => R.mv (v := vI y3) rfl) ?_))
     obtain ⟨u39, e40, hm⟩ := ob hm
     refine Mw.gp hc33 rfl rfl rfl rfl rfl (fun _ => R.ix (α := Memo) s25 e40 rfl rfl rfl) (Mw.gp hc33 rfl rfl rfl rfl rfl (fun _ => R.fa rfl) ?_)
     obtain ⟨v41, c42, r43⟩ := (Memo.at1 (s25.at_ e40)).cell rfl
     refine Mw.gq hc33 rfl rfl rfl rfl rfl (fun _ c => R.ld rfl rfl (cl_cell (Memo.at1 (s25.at_ e40)).1 rfl c42 c)) ?_
     obtain ⟨z46, e47, hm⟩ := ob hm
     refine Mw.gt hc33 rfl rfl rfl rfl rfl (T.call rfl (p39 (K := [0])  (r38.ul a32) (r43.ul a32) e47)) ?_
     rintro _ _ ⟨W48, rfl, l48, rfl⟩
     have a49 := a32.n l48
     refine ⟨⟨_, rfl, ((l31.sub (M := []) rfl).trans (l48.sub (M := []) rfl))⟩, ?_⟩
     refine Mw.gp hc33 rfl rfl rfl rfl rfl (fun _ => R.not rfl) (Mw.p rfl rfl (fun _ => R.pk hc33 rfl (v := vB (!z46)) rfl) (Mw.p rfl rfl (fun _ => R.mv (v := vB (!z46)) rfl) (bsplit (!z46) (fun hc50 => ?_) (fun hc50 => ?_))))
     ·replace hm := bt hm hc50
      refine Mw.pass' hc50 rfl rfl rfl rfl rfl rfl (Mw.pass' hc50 rfl rfl rfl rfl rfl rfl (Mw.pass' hc50 rfl rfl rfl rfl rfl rfl (Mw.pass' hc50 rfl rfl rfl rfl rfl rfl (Mw.pass' hc50 rfl rfl rfl rfl rfl rfl (Mw.pass' hc50 rfl rfl rfl rfl rfl rfl (Mw.pass' hc50 rfl rfl rfl rfl rfl rfl (Mw.pass' hc50 rfl rfl rfl rfl rfl rfl (Mw.pass' hc50 rfl rfl rfl rfl rfl rfl (Mw.pass' hc50 rfl rfl rfl rfl rfl rfl (Mw.pass' hc50 rfl rfl rfl rfl rfl rfl (Mw.pass' hc50 rfl rfl rfl rfl rfl rfl (Mw.p rfl rfl (fun _ => R.pk hc50 rfl (v := vB true) rfl) (Mw.p rfl rfl (fun _ => R.mv (v := vB true) rfl) (Mw.pass' rfl rfl rfl rfl rfl rfl rfl (Mw.pass' rfl rfl rfl rfl rfl rfl rfl (Mw.pass' rfl rfl rfl rfl rfl rfl rfl (Mw.pass' rfl rfl rfl rfl rfl rfl rfl (Mw.pass' rfl rfl rfl rfl rfl rfl rfl (Mw.pass' rfl rfl rfl rfl rfl rfl rfl (Mw.pass' rfl rfl rfl rfl rfl rfl rfl (Mw.pass' rfl rfl rfl rfl rfl rfl rfl (Mw.pass' rfl rfl rfl rfl rfl rfl rfl (Mw.pass' rfl rfl rfl rfl rfl rfl rfl (Mw.pass' rfl rfl rfl rfl rfl rfl rfl (Mw.pass' rfl rfl rfl rfl rfl rfl rfl (Mw.p rfl rfl (fun _ => R.pk rfl rfl (v := vB true) rfl) (Mw.nil (⟨?_, ⟨true, W48, rfl, (l15.trans (l31.trans l48)), rfl, hm⟩⟩))))))))))))))))))))))))))))
      iterate 54 (refine Agree.up rfl ?_)
      exact Agree.refl _
     ·replace hm := bf hm hc50
      refine Mw.gp hc50 rfl rfl rfl rfl rfl (fun _ => R.mv (v := v0_) rfl) (Mw.gp hc50 rfl rfl rfl rfl rfl (fun _ => R.mv (v := vI y3) rfl) ?_)
      obtain ⟨u51, e52, hm⟩ := ob hm
      refine Mw.gp hc50 rfl rfl rfl rfl rfl (fun _ => R.ix (α := Memo) s19 e52 rfl rfl rfl) (Mw.gp hc50 rfl rfl rfl rfl rfl (fun _ => R.fa rfl) ?_)
      obtain ⟨v53, c54, r55⟩ := (Memo.at2 (s19.at_ e52)).cell rfl
      refine Mw.gq hc50 rfl rfl rfl rfl rfl (fun _ c => R.ld rfl rfl (cl_cell (Memo.at2 (s19.at_ e52)).1 rfl c54 c)) (Mw.gp hc50 rfl rfl rfl rfl rfl (fun _ => R.mv (v := v1_) rfl) (Mw.gp hc50 rfl rfl rfl rfl rfl (fun _ => R.mv (v := vI y3) rfl) ?_))
      obtain ⟨u56, e57, hm⟩ := ob hm
      refine Mw.gp hc50 rfl rfl rfl rfl rfl (fun _ => R.ix (α := Memo) s25 e57 rfl rfl rfl) (Mw.gp hc50 rfl rfl rfl rfl rfl (fun _ => R.fa rfl) ?_)
      obtain ⟨v58, c59, r60⟩ := (Memo.at2 (s25.at_ e57)).cell rfl
      refine Mw.gq hc50 rfl rfl rfl rfl rfl (fun _ c => R.ld rfl rfl (cl_cell (Memo.at2 (s25.at_ e57)).1 rfl c59 c)) ?_
      obtain ⟨z63, e64, hm⟩ := ob hm
      refine Mw.gt hc50 rfl rfl rfl rfl rfl (T.call rfl (p39 (K := [0])  (r55.ul a49) (r60.ul a49) e64)) ?_
      rintro _ _ ⟨W65, rfl, l65, rfl⟩
      have a66 := a49.n l65
      refine ⟨⟨_, rfl, ((l31.sub (M := []) rfl).trans ((l48.sub (M := []) rfl).trans (l65.sub (M := []) rfl)))⟩, ?_⟩
      refine Mw.gp hc50 rfl rfl rfl rfl rfl (fun _ => R.not rfl) (Mw.p rfl rfl (fun _ => R.pk hc50 rfl (v := vB (!z63)) rfl) (Mw.p rfl rfl (fun _ => R.mv (v := vB (!z63)) rfl) (bsplit (!z63) (fun hc67 => ?_) (fun hc67 => ?_))))
      ·replace hm := bt hm hc67
       refine Mw.pass' hc67 rfl rfl rfl rfl rfl rfl (Mw.pass' hc67 rfl rfl rfl rfl rfl rfl (Mw.pass' hc67 rfl rfl rfl rfl rfl rfl (Mw.pass' hc67 rfl rfl rfl rfl rfl rfl (Mw.pass' hc67 rfl rfl rfl rfl rfl rfl (Mw.pass' hc67 rfl rfl rfl rfl rfl rfl (Mw.pass' hc67 rfl rfl rfl rfl rfl rfl (Mw.pass' hc67 rfl rfl rfl rfl rfl rfl (Mw.pass' hc67 rfl rfl rfl rfl rfl rfl (Mw.pass' hc67 rfl rfl rfl rfl rfl rfl (Mw.pass' hc67 rfl rfl rfl rfl rfl rfl (Mw.pass' hc67 rfl rfl rfl rfl rfl rfl (Mw.p rfl rfl (fun _ => R.pk hc67 rfl (v := vB true) rfl) (Mw.nil (⟨?_, ⟨true, W65, rfl, (l15.trans (l31.trans (l48.trans l65))), rfl, hm⟩⟩))))))))))))))
       iterate 54 (refine Agree.up rfl ?_)
       exact Agree.refl _
      ·replace hm := bf hm hc67
       refine Mw.gp hc67 rfl rfl rfl rfl rfl (fun _ => R.mv (v := v0_) rfl) (Mw.gp hc67 rfl rfl rfl rfl rfl (fun _ => R.mv (v := vI y3) rfl) ?_)
       obtain ⟨u68, e69, hm⟩ := ob hm
       refine Mw.gp hc67 rfl rfl rfl rfl rfl (fun _ => R.ix (α := Memo) s19 e69 rfl rfl rfl) (Mw.gp hc67 rfl rfl rfl rfl rfl (fun _ => R.fa rfl) ?_)
       obtain ⟨v70, c71, r72⟩ := (Memo.at3 (s19.at_ e69)).cell rfl
       refine Mw.gq hc67 rfl rfl rfl rfl rfl (fun _ c => R.ld rfl rfl (cl_cell (Memo.at3 (s19.at_ e69)).1 rfl c71 c)) (Mw.gp hc67 rfl rfl rfl rfl rfl (fun _ => R.mv (v := v1_) rfl) (Mw.gp hc67 rfl rfl rfl rfl rfl (fun _ => R.mv (v := vI y3) rfl) ?_))
       obtain ⟨u73, e74, hm⟩ := ob hm
       refine Mw.gp hc67 rfl rfl rfl rfl rfl (fun _ => R.ix (α := Memo) s25 e74 rfl rfl rfl) (Mw.gp hc67 rfl rfl rfl rfl rfl (fun _ => R.fa rfl) ?_)
       obtain ⟨v75, c76, r77⟩ := (Memo.at3 (s25.at_ e74)).cell rfl
       refine Mw.gq hc67 rfl rfl rfl rfl rfl (fun _ c => R.ld rfl rfl (cl_cell (Memo.at3 (s25.at_ e74)).1 rfl c76 c)) ?_
       obtain ⟨z80, e81, hm⟩ := ob hm
       refine Mw.gt hc67 rfl rfl rfl rfl rfl (T.call rfl (p39 (K := [0])  (r72.ul a66) (r77.ul a66) e81)) ?_
       rintro _ _ ⟨W82, rfl, l82, rfl⟩
       refine ⟨⟨_, rfl, ((l31.sub (M := []) rfl).trans ((l48.sub (M := []) rfl).trans ((l65.sub (M := []) rfl).trans (l82.sub (M := []) rfl))))⟩, ?_⟩
       refine Mw.gp hc67 rfl rfl rfl rfl rfl (fun _ => R.not rfl) (Mw.p rfl rfl (fun _ => R.pk hc67 rfl (v := vB (!z80)) rfl) (Mw.nil (⟨?_, ⟨(!z80), W82, rfl, (l15.trans (l31.trans (l48.trans (l65.trans l82)))), rfl, hm⟩⟩)))
       iterate 54 (refine Agree.up rfl ?_)
       exact Agree.refl _
  ·replace hm := bf hm hc9
   refine Cw.exit ?_
   rw [hK5] at hm
   refine Cw.seq (Cw.region (Lw.g (vB true) rfl (Lw.nil ?_)))
   cases hm
   exact Cw.ret (ret1 rfl (Res.mk a7 rfl))

theorem p20 {W : CW} {K : List Nat} {x0 : List Vm.Memo} {v0_ : Value} {x1 : List Vm.Memo} {v1_ : Value} {r : Bool} (h0 : Rd W K [v0_] x0) (h1 : Rd W K [v1_] x1) (hm : Vm.laws_smMemos x0 x1 = some r) : CallR Try.prog 20 [v0_, v1_].toArray W.w (Res W [] fun W' v => v = vB r) :=
 (c20 (V := W.view K []) (h0.view _) (h1.view _) hm).ad (fk 0) fun _ _ e => e

end Go.Sx
