/- Walks: each function answers as its model, printed by a program of ours. Conditions: the arguments read as they are given. -/
import Derived.Test.YtidkloialdageaaGreatDoorCTs
import Derived.Test.YtidkloialdageaaGreatDoorCM5
import Derived.Test.YtidkloialdageaaGreatDoorCW0
import Derived.Test.YtidkloialdageaaGreatDoorCW3
import Derived.Test.YtidkloialdageaaGreatDoorCW6
import Derived.Test.YtidkloialdageaaGreatDoorCW7
import Derived.Test.YtidkloialdageaaGreatDoorCW8
import Derived.Test.YtidkloialdageaaGreatDoorCW9
namespace Go.Sx
open Go Go.Proofs Go.Vm Rp
set_option linter.unusedVariables false
set_option linter.unusedSimpArgs false
variable {W W0 : CW} {K : List Nat}
theorem c50 {x0 v0_ r} (h0 : Rd W0 [0] [v0_] x0) (hm : Vm.spec_DrawBlameLine x0 = some r) : Q0 50 [v0_] W0 fun Wf v => ∃ u0_0 u0_1, v = .tuple [.agg [u0_0, u0_1].toArray, vI r.2.1, vS r.2.2.1, vI r.2.2.2].toArray ∧ OwS Wf [31] [] [u0_0] r.1.Commits ∧ OwS Wf [32] [] [u0_1] r.1.Heads := by
 unfold Vm.spec_DrawBlameLine at hm
 refine CallR.of Tryz.func50 rfl rfl rfl rfl (sr (al 2 [.slice none 0 0, .slice none 0 0] fun g1 W1 l1 b1 => ?_))
 have a2 := l1.o
 refine Gi rfl (Gs rfl (Ni rfl (sr (mv v0_ rfl (cr hm (fun _ => p22 (k0 := 3) (k1 := 4) (h0.ul a2)) ?_)))))
 rintro z4 _ W6 hm l6 ⟨v0_0_6, v0_1_6, rfl, f6_0, f6_1⟩
 have a7 := a2.n l6
 refine mv (.tuple [.agg [v0_0_6, v0_1_6].toArray, vI z4.2.1, vS z4.2.2].toArray) rfl (Lw.r rfl (R.ext (vs := [.agg [v0_0_6, v0_1_6].toArray, vI z4.2.1, vS z4.2.2]) (v := .agg [v0_0_6, v0_1_6].toArray) rfl rfl) (Lw.r rfl (R.ext (vs := [.agg [v0_0_6, v0_1_6].toArray, vI z4.2.1, vS z4.2.2]) (v := vI z4.2.1) rfl rfl) (Lw.r rfl (R.ext (vs := [.agg [v0_0_6, v0_1_6].toArray, vI z4.2.1, vS z4.2.2]) (v := vS z4.2.2) rfl rfl) (al 5 [.slice none 0 0, .slice none 0 0] fun g9 W9 l9 b9 => ?_))))
 have a10 := a7.n l9
 refine sta b9 (oc_cons (f6_0.up l9).oc (oc_cons (f6_1.up l9).oc oc_nil)) fun W14 l14 b14 => ?_
 have a15 := a10.t l14
 have o16 := (f6_0.up l9).up l14
 have o17 := (f6_1.up l9).up l14
 refine Gi rfl (Ns rfl (sr (la b14 (mi rfl (ms rfl (mv v0_ rfl (Lw.ln x0 (h0.ul a15) rfl (Lw.r rfl (R.rem rfl rfl (by decide)) (sta (((b1.up l6).up l9).up l14) (oc_cons o16.oc (oc_cons o17.oc oc_nil)) fun W20 l20 b20 => ?_)))))))))
 have a21 := a15.t l20
 refine Gi rfl (Gs rfl (Ni rfl ?_))
 obtain ⟨W25, ew25, l25, o25⟩ := (o16.up l20).dyeO 31
 have a26 := a21.t l25
 obtain ⟨W30, ew30, l30, o30⟩ := ((o17.up l20).up l25).dyeO 32
 have a31 := a26.t l30
 cases hm
 rw [← ew30.trans (ew25)]
 exact Cw.ret (retG (ResOk.c rfl ((b20.up l25).up l30) (ResOk.t rfl (ResOk.t rfl (ResOk.t rfl ResOk.n)))) (Res.mk a31 ⟨v0_0_6, v0_1_6, rfl, (o25.up l30).s, o30.s⟩))
theorem p50 {x0 v0_ k0 k1 r} (h0 : Rd W K [v0_] x0) (hm : Vm.spec_DrawBlameLine x0 = some r) : Q1 50 [v0_] W [] fun W' v => ∃ u0_0 u0_1, v = .tuple [.agg [u0_0, u0_1].toArray, vI r.2.1, vS r.2.2.1, vI r.2.2.2].toArray ∧ Ow W' k0 [] [u0_0] r.1.Commits ∧ Ow W' k1 [] [u0_1] r.1.Heads :=
 CallR.adJ (J := []) (fun c => bif Nat.beq c 0 then 0 else bif Nat.beq c 31 then k0 else bif Nat.beq c 32 then k1 else 0) (c50 (h0.view _) hm) fun _ _ ⟨u0_0, u0_1, e, f0, f1⟩ => ⟨u0_0, u0_1, e, f0.one1.backN rfl, f1.one1.backN rfl⟩
theorem c116 {x0 v0_ x1 r} (h0 : Rd W0 [0] [v0_] x0) (hm : Vm.slices_Index_int_int x0 x1 = some r) : Q0 116 [v0_, vI x1] W0 fun Wf v => v = vI r := by
 unfold Vm.slices_Index_int_int at hm
 refine CallR.of Tryz.func116 rfl rfl rfl rfl (sr (Ni rfl (ssr (mv v0_ rfl (Lw.ln x0 h0 rfl (mi rfl (nl (Cw.block ?_))))))))
 obtain ⟨K5, hK5, hm⟩ := jn_e hm
 refine Cw.loop 8 18 [4, 5, 8] (fun m l w => ∃ y1 y3 j2 W4, CW.w W4 = w ∧ Le [] W0 W4 ∧ l = [vI y1, j2, vI y3] ∧ Vm.slices_Index_int_int_l1 x0 x1 K5 m y1 y3 = some r) _ ⟨0, 0, undef, W0, rfl, Le.refl _ _, rfl, hm⟩ ?_
 rintro (_ | m6) _ _ σ ⟨y1, y3, j2, W4, rfl, l4, rfl, hm⟩
 ·cases hm
 unfold Vm.slices_Index_int_int_l1 at hm
 have a7 := l4.o
 refine sr (Lw.lt rfl (nl (Cw.seq (cn hm (fun hm => ?_) fun hm => ?_))))
 ·refine sk (Cw.seq (Cw.block (sr (mi rfl (Ni rfl (sr (mi rfl (mv v0_ rfl (mi rfl ?_)))))))))
  obtain ⟨u9, e10, hm⟩ := ob hm
  refine Lw.r rfl (R.ix (α := Int) (h0.ul a7) e10 rfl rfl rfl) (Lw.r rfl (R.ld rfl rfl ((h0.ul a7).at_ e10).int) (Lw.eq rfl (nl (cn hm (fun hm => ?_) fun hm => ?_))))
  ·exact sr (mi rfl (Ni rfl (.ret (rt hm a7))))
  ·exact sk (rg (Lw.add rfl (mi rfl (nl ((agm) ⟨y1, w64 (y3 + 1), vI y3, W4, rfl, l4, rfl, hm⟩)))))
 ·refine Cw.exit ?_
  rw [hK5] at hm
  exact sr (Ni rfl (.ret (rt hm a7)))
theorem p116 {x0 v0_ x1 r} (h0 : Rd W K [v0_] x0) (hm : Vm.slices_Index_int_int x0 x1 = some r) : Q1 116 [v0_, vI x1] W [] fun W' v => v = vI r :=
 (c116 (h0.view _) hm).ad (fk 0) fun _ _ e => e
theorem c51 {x0 v0_0_ v0_1_ x1 x2 x3 r} (h0 : Rd W0 [0] [v0_0_, v0_1_] x0) (h99 : Gl 0 W0 [0]) (hm : Vm.impl_BlameLine x0 x1 x2 x3 = some r) : Q0 51 [.agg [v0_0_, v0_1_].toArray, vI x1, vS x2, vI x3] W0 fun Wf v => ∃ u0, v = u0 ∧ OwS Wf LL [] [u0] r := by
 unfold Vm.impl_BlameLine at hm
 obtain ⟨w0_0, w0_1, he0, h0_0, h0_1⟩ := Repo.split h0
 simp only [List.cons.injEq, and_true, true_and] at he0
 obtain ⟨rfl, rfl⟩ := he0
 refine CallR.of Tryz.func51 rfl rfl rfl rfl (sr (bo 2 rfl fun g1 W1 l1 b1 => ?_))
 have a2 := l1.o
 refine Nv (.slice none 0 0) rfl (sr (la b1 (mi rfl (ms rfl (cr hm (fun _ => p23 (k0 := 3) (Repo.rd (K := [0]) x0.Commits x0.Heads (h0_0.ul a2) (h0_1.ul a2)) (h99.ul a2)) ?_)))))
 rintro z6 v0_8 W8 hm l8 ⟨_, rfl, f8_0⟩
 have a9 := a2.n l8
 refine Nv v0_8 rfl (ssr (mi rfl (mv v0_8 rfl (Lw.ln z6 f8_0.rd rfl (Lw.sub rfl (ca hm (fun _ => p78) fun z11 W13 hm l13 => ?_))))))
 have a14 := a9.n l13
 refine Lw.r rfl (R.not rfl) (nl (cn hm (fun hm => ?_) fun hm => ?_))
 ·refine sr (Nv (.slice none 0 0) rfl ?_)
  cases hm
  exact Cw.ret (ret1 rfl (Res.mk a14 ⟨.slice none 0 0, rfl, (owsN []).sub rfl rfl⟩))
 ·refine sk (sr (la ((b1.up l8).up l13) (mi rfl (cr hm (fun _ => p91 (k0 := 4) (Repo.rd (K := [0]) x0.Commits x0.Heads (h0_0.ul a14) (h0_1.ul a14))) ?_))))
  rintro z20 v0_22 W22 hm l22 ⟨_, rfl, f22_0⟩
  have a23 := a14.n l22
  have o24 := (f8_0.up l13).up l22
  refine Nv v0_22 rfl (sr (mv v0_22 rfl (mv v0_22 rfl (mv v0_8 rfl (mi rfl ?_)))))
  obtain ⟨u26, e27, hm⟩ := ob hm
  refine Lw.r rfl (R.ix (α := Int) o24.rd e27 rfl rfl rfl) (Lw.r rfl (R.ld rfl rfl (o24.rd.at_ e27).int) (ca hm (fun _ => p116 (K := [4]) f22_0.rd) fun z28 W30 hm l30 => ?_))
  have a31 := a23.n l30
  have o33 := f22_0.up l30
  refine Lw.add rfl ?_
  obtain ⟨q35, e36, hm⟩ := ob hm
  have r38 := o33.rd.cutV e36
  refine Lw.r rfl (R.sl o33.rd e36 rfl (.inl ⟨rfl, rfl⟩) (.inr rfl)) (Nv (cutV v0_22 (0 : Int).toNat (w64 (z28 + 1) : Int).toNat (Rp.sz (Int))) rfl ?_)
  have o39 := Ow.preM o33 e36
  cases hm
  exact Cw.ret (ret1 rfl (Res.mk a31 ⟨(cutV v0_22 (0 : Int).toNat (w64 (z28 + 1) : Int).toNat (Rp.sz (Int))), rfl, o39.s.sub rfl rfl⟩))
theorem p51 {x0 v0_0_ v0_1_ x1 x2 x3 k0 r} (h0 : Rd W K [v0_0_, v0_1_] x0) (h99 : Gl 0 W K) (hm : Vm.impl_BlameLine x0 x1 x2 x3 = some r) : Q1 51 [.agg [v0_0_, v0_1_].toArray, vI x1, vS x2, vI x3] W [] fun W' v => ∃ u0, v = u0 ∧ Ow W' k0 [] [u0] r :=
 (c51 (h0.view _) (h99.view _) hm).ad (fk k0) fun _ _ ⟨u0, e, f0⟩ => ⟨u0, e, f0.back (fk_LL _)⟩
theorem c52 {x0 v0_0_ v0_1_ x1 x2 x3 r} (h0 : Rd W0 [0] [v0_0_, v0_1_] x0) (hm : Vm.spec_BlameLine x0 x1 x2 x3 = some r) : Q0 52 [.agg [v0_0_, v0_1_].toArray, vI x1, vS x2, vI x3] W0 fun Wf v => ∃ u0, v = u0 ∧ OwS Wf LL [] [u0] r := by
 unfold Vm.spec_BlameLine at hm
 obtain ⟨w0_0, w0_1, he0, h0_0, h0_1⟩ := Repo.split h0
 simp only [List.cons.injEq, and_true, true_and] at he0
 obtain ⟨rfl, rfl⟩ := he0
 refine CallR.of Tryz.func52 rfl rfl rfl rfl (sr (bo 2 rfl fun g1 W1 l1 b1 => ?_))
 have a2 := l1.o
 refine Nv (.slice none 0 0) rfl (sr (Lw.t rfl (T.lit0 (α := Int) 3 []) ?_))
 rintro v3 _ ⟨W3, rfl, l3, o3⟩
 have a4 := a2.n l3
 refine Nv v3 rfl (sr (la (b1.up l3) (mi rfl (ms rfl (cr hm (fun _ => p25 (k0 := 4) (Repo.rd (K := [0]) x0.Commits x0.Heads (h0_0.ul a4) (h0_1.ul a4))) ?_)))))
 rintro z8 v0_10 W10 hm l10 ⟨_, rfl, f10_0⟩
 have a11 := a4.n l10
 refine Nv v0_10 rfl (ssr (mi rfl (mv v0_10 rfl (Lw.ln z8 f10_0.rd rfl (Lw.sub rfl (ca hm (fun _ => p84) fun z14 W16 hm l16 => ?_))))))
 have a17 := a11.n l16
 have o18 := (o3.up l10).up l16
 refine Lw.r rfl (R.not rfl) (nl (cn hm (fun hm => ?_) fun hm => ?_))
 ·refine sr (mv v3 rfl (Nv v3 rfl ?_))
  cases hm
  exact Cw.ret (ret1 rfl (Res.mk a17 ⟨v3, rfl, o18.s.sub rfl rfl⟩))
 ·refine sk (Cw.seq (Cw.block ?_))
  obtain ⟨K37, hK37, hm⟩ := jn_e hm
  refine Cw.loop 29 88 [1, 3, 9, 10, 11, 12, 13, 14, 15, 16] (fun m l w => ∃ y22 y23 y24 y27 v25 v28 j30 j31 j32 j33 j34 j35 W36, CW.w W36 = w ∧ Le [3, 7] W16 W36 ∧ l = [vI y22, vI y23, v25, v28, j30, j31, j32, j33, j34, j35] ∧ Ow W36 3 [] [v25] y24 ∧ Ow W36 4 [] [v28] y27 ∧ Vm.spec_BlameLine_l1 x0 x2 K37 m y22 y23 y24 y27 = some r) _ ⟨x1, x3, ([] : List Int), z8, v3, v0_10, undef, undef, undef, undef, undef, undef, W16, rfl, Le.refl _ _, rfl, o18, (f10_0.up l16), hm⟩ ?_
  rintro (_ | m38) _ _ σ ⟨y22, y23, y24, y27, v25, v28, j30, j31, j32, j33, j34, j35, W36, rfl, l36, rfl, o26, o29, hm⟩
  ·cases hm
  unfold Vm.spec_BlameLine_l1 at hm
  have a39 := a17.t l36
  refine ssr (mi rfl (mv v28 rfl (mi rfl ?_)))
  obtain ⟨u41, e42, hm⟩ := ob hm
  refine Lw.r rfl (R.ix (α := Int) o29.rd e42 rfl rfl rfl) (Lw.r rfl (R.ld rfl rfl (o29.rd.at_ e42).int) (Lw.ne rfl (nl (cn hm (fun hm => ?_) fun hm => ?_))))
  ·refine sk (Cw.block (sr (mv v25 rfl (mi rfl (Lw.t rfl (T.bs 5 [vI y22] (cs := [vI y22]) rfl rfl (bsv rfl)) ?_)))))
   rintro _ _ ⟨g44, W44, rfl, rfl, l44, b44⟩
   have a45 := a39.n l44
   obtain ⟨q49, e50, hm⟩ := ob hm
   refine Lw.t rfl (T.app1S (α := Int) (K' := []) (o26.up l44) b44 (rdI _) rfl rfl e50) ?_
   rintro v51 _ ⟨W51, rfl, l51, o51⟩
   have a52 := a45.t l51
   have b54 := (((((b1.up l3).up l10).up l16).up l36).up l44).up l51
   refine Nv v51 rfl (sr (fl b54 rfl (mi rfl ?_)))
   obtain ⟨u56, e57, hm⟩ := ob hm
   refine Lw.r rfl (R.ix (α := Commit) (h0_0.ul a52) e57 rfl rfl rfl) (Lw.fa rfl ?_)
   obtain ⟨v59, c60, r61⟩ := (Commit.at2 ((h0_0.ul a52).at_ e57)).cell rfl
   refine Lw.r rfl (R.ld rfl rfl c60) (ms rfl (cr hm (fun _ => p121 r61) ?_))
   rintro z62 _ W64 hm l64 ⟨v0_64, rfl, f64_0⟩
   have s65 := f64_0.sub (M := [0]) rfl
   have a66 := a52.n l64
   have b69 := b54.up l64
   refine mv (.tuple [v0_64, vB z62.2].toArray) rfl (Lw.r rfl (R.ext (vs := [v0_64, vB z62.2]) (v := v0_64) rfl rfl) (Lw.r rfl (R.ext (vs := [v0_64, vB z62.2]) (v := vB z62.2) rfl rfl) (Gv v0_64 rfl (Nb rfl (sr (fl b69 rfl (mi rfl ?_)))))))
   obtain ⟨u71, e72, hm⟩ := ob hm
   have s73 := h0_0.ul a66
   refine Lw.r rfl (R.ix (α := Commit) s73 e72 rfl rfl rfl) (Lw.fa rfl ?_)
   obtain ⟨v74, c75, r76⟩ := (Commit.at0 (s73.at_ e72)).cell rfl
   refine Lw.r rfl (R.ld rfl rfl c75) ?_
   obtain ⟨u77, e78, hm⟩ := ob hm
   refine Lw.r rfl (R.ix (α := Int) r76 e78 rfl rfl rfl) (Lw.r rfl (R.ld rfl rfl (r76.at_ e78).int) (Ni rfl (sr (fl b69 rfl (mi rfl ?_)))))
   obtain ⟨u79, e80, hm⟩ := ob hm
   refine Lw.r rfl (R.ix (α := Commit) s73 e80 rfl rfl rfl) (Lw.fa rfl ?_)
   obtain ⟨v81, c82, r83⟩ := (Commit.at2 (s73.at_ e80)).cell rfl
   refine Lw.r rfl (R.ld rfl rfl c82) (ms rfl (cr hm (fun _ => p121 r83) ?_))
   rintro z84 _ W86 hm l86 ⟨v0_86, rfl, f86_0⟩
   have s87 := f86_0.sub (M := [0]) rfl
   have a88 := l86.o
   refine mv (.tuple [v0_86, vB z84.2].toArray) rfl (Lw.r rfl (R.ext (vs := [v0_86, vB z84.2]) (v := v0_86) rfl rfl) (Lw.r rfl (R.ext (vs := [v0_86, vB z84.2]) (v := vB z84.2) rfl rfl) (Gv v0_86 rfl (Nb rfl (sr (mv v0_86 rfl (mv v0_64 rfl (cr hm (fun _ => p122 (k0 := 6) s87 (s65.ul a88)) ?_))))))))
   rintro z94 v0_96 W96 hm l96 ⟨_, rfl, f96_0⟩
   have a97 := (a66.trans a88).n l96
   refine Nv v0_96 rfl ?_
   obtain ⟨K105, hK105, hm⟩ := jn_e hm
   refine Cw.join 72 84 [3, 16] (fun l w => ∃ y102 j103 W104, CW.w W104 = w ∧ Le [] W96 W104 ∧ l = [vI y102, j103] ∧ K105 y102 = some r) ?_ ?_
   ·rintro _ _ σ ⟨y102, j103, W104, rfl, l104, rfl, hm⟩
    rw [hK105] at hm
    have a106 := a97.n l104
    refine rg (la (((b69.up l86).up l96).up l104) (mi rfl (ms rfl (cr hm (fun _ => p89 (k0 := 7) (Repo.rd (K := [0]) x0.Commits x0.Heads (h0_0.ul a106) (h0_1.ul a106))) ?_))))
    rintro z114 v0_116 W116 hm l116 ⟨_, rfl, f116_0⟩
    refine Nv v0_116 rfl ?_
    obtain ⟨W123, ew123, l123, o123⟩ := f116_0.dyeO 4
    exact (agm) ⟨u77, y102, q49, z114, v51, v0_116, v0_64, vB z62.2, v0_86, vB z84.2, v0_96, j103, W123, ew123, ((((((((l36.j l44).j l51).j l64).j l86).j l96).j l104).j l116).j l123).w, rfl, ((((((o51.up l64).up l86).up l96).up l104).up l116).up l123), o123, hm⟩
   ·refine sr (Ni rfl (Cw.block (Cw.loop 72 84 [3, 16] (fun m l w => ∃ y129 y130 W131, CW.w W131 = w ∧ Le [] W96 W131 ∧ l = [vI y129, vI y130] ∧ Vm.spec_BlameLine_l2 z94 K105 m y129 y130 = some r) _ ⟨y23, 0, W96, rfl, Le.refl _ _, rfl, hm⟩ ?_)))
    rintro (_ | m133) _ _ σ ⟨y129, y130, W131, rfl, l131, rfl, hm⟩
    ·cases hm
    unfold Vm.spec_BlameLine_l2 at hm
    have o137 := f96_0.up l131
    refine ssr (mi rfl (mv v0_96 rfl (Lw.ln z94 o137.rd rfl (Lw.lt rfl (nl (cn hm (fun hm => ?_) fun hm => ?_))))))
    ·refine sk (Cw.seq (Cw.block (sr (mv v0_96 rfl (mi rfl ?_)))))
     obtain ⟨u141, e142, hm⟩ := ob hm
     refine Lw.r rfl (R.ix (α := Int) o137.rd e142 rfl rfl rfl) (Lw.r rfl (R.ld rfl rfl (o137.rd.at_ e142).int) (mi rfl (Lw.eq rfl (nl (cn hm (fun hm => ?_) fun hm => ?_)))))
     ·exact sr (mi rfl (Ni rfl (Cw.exit ((ag) ⟨y130, vI y130, W131, rfl, l131, rfl, hm⟩))))
     ·exact sk (rg (mi rfl (Lw.add rfl (Ni rfl ((agm) ⟨y129, w64 (y130 + 1), W131, rfl, l131, rfl, hm⟩)))))
    ·exact Cw.exit ((ag) ⟨y129, vI y130, W131, rfl, l131, rfl, hm⟩)
  ·refine Cw.exit ?_
   rw [hK37] at hm
   refine sr (mv v25 rfl (mi rfl (Lw.t rfl (T.bs 8 [vI y22] (cs := [vI y22]) rfl rfl (bsv rfl)) ?_)))
   rintro _ _ ⟨g144, W144, rfl, rfl, l144, b144⟩
   have a145 := a39.n l144
   obtain ⟨q149, e150, hm⟩ := ob hm
   refine Lw.t rfl (T.app1S (α := Int) (K' := []) (o26.up l144) b144 (rdI _) rfl rfl e150) ?_
   rintro v151 _ ⟨W151, rfl, l151, o151⟩
   have a152 := a145.t l151
   refine Nv v151 rfl ?_
   cases hm
   exact Cw.ret (ret1 rfl (Res.mk a152 ⟨v151, rfl, o151.s.sub rfl rfl⟩))
theorem p52 {x0 v0_0_ v0_1_ x1 x2 x3 k0 r} (h0 : Rd W K [v0_0_, v0_1_] x0) (hm : Vm.spec_BlameLine x0 x1 x2 x3 = some r) : Q1 52 [.agg [v0_0_, v0_1_].toArray, vI x1, vS x2, vI x3] W [] fun W' v => ∃ u0, v = u0 ∧ Ow W' k0 [] [u0] r :=
 (c52 (h0.view _) hm).ad (fk k0) fun _ _ ⟨u0, e, f0⟩ => ⟨u0, e, f0.back (fk_LL _)⟩
theorem c8 {x0 v0_ r} (h0 : Rd W0 [0] [v0_] x0) (h99 : Gl 0 W0 [0]) (hm : Vm.laws_FnBlameLine x0 = some r) : Q0 8 [v0_] W0 fun Wf v => v = vB r := by
 unfold Vm.laws_FnBlameLine at hm
 refine CallR.of Tryz.func8 rfl rfl rfl rfl (sr (Nb rfl (ssr (mv v0_ rfl (Lw.ln x0 h0 rfl (Lw.gt rfl (nl (cn hm (fun hm => ?_) fun hm => ?_))))))))
 ·exact sr (Nb rfl (.ret (rt hm (Le.refl _ _))))
 ·refine sk (sr (mv v0_ rfl (cr hm (fun _ => p50 (k0 := 2) (k1 := 3) h0) ?_)))
  rintro z2 _ W4 hm l4 ⟨v0_0_4, v0_1_4, rfl, f4_0, f4_1⟩
  have a5 := l4.o
  refine mv (.tuple [.agg [v0_0_4, v0_1_4].toArray, vI z2.2.1, vS z2.2.2.1, vI z2.2.2.2].toArray) rfl (Lw.r rfl (R.ext (vs := [.agg [v0_0_4, v0_1_4].toArray, vI z2.2.1, vS z2.2.2.1, vI z2.2.2.2]) (v := .agg [v0_0_4, v0_1_4].toArray) rfl rfl) (Lw.r rfl (R.ext (vs := [.agg [v0_0_4, v0_1_4].toArray, vI z2.2.1, vS z2.2.2.1, vI z2.2.2.2]) (v := vI z2.2.1) rfl rfl) (Lw.r rfl (R.ext (vs := [.agg [v0_0_4, v0_1_4].toArray, vI z2.2.1, vS z2.2.2.1, vI z2.2.2.2]) (v := vS z2.2.2.1) rfl rfl) (Lw.r rfl (R.ext (vs := [.agg [v0_0_4, v0_1_4].toArray, vI z2.2.1, vS z2.2.2.1, vI z2.2.2.2]) (v := vI z2.2.2.2) rfl rfl) (al 4 [.slice none 0 0, .slice none 0 0] fun g6 W6 l6 b6 => ?_)))))
  have a7 := a5.n l6
  refine sta b6 (oc_cons (f4_0.up l6).oc (oc_cons (f4_1.up l6).oc oc_nil)) fun W10 l10 b10 => ?_
  have a11 := a7.t l10
  have o12 := (f4_0.up l6).up l10
  have o13 := (f4_1.up l6).up l10
  refine Gi rfl (Gs rfl (Ni rfl (sr (la b10 (mi rfl (ms rfl (mi rfl (cr hm (fun _ => p51 (K := [0, 2, 3]) (k0 := 5) (x0 := (Vm.Repo.mk z2.1.Commits z2.1.Heads)) ((Repo.rd (K := [2, 3]) z2.1.Commits z2.1.Heads (o12.rd.sub (M := [2, 3]) rfl) (o13.rd.sub (M := [2, 3]) rfl)).sub (M := [0, 2, 3]) rfl) ((h99.ul a11).sub (M := [0, 2, 3]) rfl)) ?_))))))))
  rintro z15 v0_17 W17 hm l17 ⟨_, rfl, f17_0⟩
  have a18 := a11.n l17
  refine Nv v0_17 rfl (Cw.seq ?_)
  obtain ⟨K24, hK24, hm⟩ := jn_e hm
  refine Cw.join 29 41 [41] (fun l w => ∃ y22 W23, CW.w W23 = w ∧ Le [] W17 W23 ∧ l = [vB y22] ∧ K24 y22 = some r) ?_ ?_
  ·rintro _ _ σ ⟨y22, W23, rfl, l23, rfl, hm⟩
   rw [hK24] at hm
   have a25 := a18.n l23
   have o26 := (o12.up l17).up l23
   have o27 := (o13.up l17).up l23
   have b29 := (b10.up l17).up l23
   refine cn hm (fun hm => ?_) fun hm => ?_
   ·refine sr (mv v0_17 rfl (la b29 (mi rfl (ms rfl (mi rfl (cr hm (fun _ => p52 (K := [2, 3]) (k0 := 6) (x0 := (Vm.Repo.mk z2.1.Commits z2.1.Heads)) (Repo.rd (K := [2, 3]) z2.1.Commits z2.1.Heads (o26.rd.sub (M := [2, 3]) rfl) (o27.rd.sub (M := [2, 3]) rfl))) ?_))))))
    rintro z31 v0_33 W33 hm l33 ⟨_, rfl, f33_0⟩
    have a34 := a25.n l33
    refine ca hm (fun _ => p24 (K := [5, 6]) (((f17_0.up l23).up l33).rd.sub (M := [5, 6]) rfl) (f33_0.rd.sub (M := [5, 6]) rfl)) fun z39 W41 hm l41 => ?_
    have a42 := a34.n l41
    exact Nb rfl (.ret (rt hm a42))
   ·refine sk (sr (la b29 (mi rfl (cr hm (fun _ => p27 (K := [0, 2, 3]) (k0 := 7) (x0 := (Vm.Repo.mk z2.1.Commits z2.1.Heads)) ((Repo.rd (K := [2, 3]) z2.1.Commits z2.1.Heads (o26.rd.sub (M := [2, 3]) rfl) (o27.rd.sub (M := [2, 3]) rfl)).sub (M := [0, 2, 3]) rfl) ((h99.ul a25).sub (M := [0, 2, 3]) rfl)) ?_))))
    rintro z49 v0_51 W51 hm l51 ⟨_, rfl, f51_0⟩
    have a52 := a25.n l51
    have o53 := o26.up l51
    refine Nv v0_51 rfl (sr (fl (b29.up l51) rfl (mi rfl ?_)))
    obtain ⟨u57, e58, hm⟩ := ob hm
    refine Lw.r rfl (R.ix (α := Commit) o53.rd e58 rfl rfl rfl) (Lw.fa rfl ?_)
    obtain ⟨v59, c60, r61⟩ := (Commit.at2 (o53.rd.at_ e58)).cell rfl
    refine Lw.r rfl (R.ld rfl rfl c60) (ms rfl (cr hm (fun _ => p26 (K := [0, 2]) (k0 := 8) (r61.sub (M := [0, 2]) rfl) ((h99.ul a52).sub (M := [0, 2]) rfl)) ?_))
    rintro z63 _ W65 hm l65 ⟨v0_65, rfl, f65_0⟩
    have a66 := a52.n l65
    refine mv (.tuple [v0_65, vB z63.2].toArray) rfl (Lw.r rfl (R.ext (vs := [v0_65, vB z63.2]) (v := v0_65) rfl rfl) (Lw.r rfl (R.ext (vs := [v0_65, vB z63.2]) (v := vB z63.2) rfl rfl) (Gv v0_65 rfl (Nb rfl (ssr (Ni rfl (Cw.block ?_)))))))
    obtain ⟨K77, hK77, hm⟩ := jn_e hm
    refine Cw.loop 63 100 [2, 11, 12, 13] (fun m l w => ∃ y72 y73 j74 j75 W76, CW.w W76 = w ∧ Le [] W65 W76 ∧ l = [vB y72, vI y73, j74, j75] ∧ Vm.laws_FnBlameLine_l1 z2 z15 z49 z63 K77 m y72 y73 = some r) _ ⟨false, 0, undef, undef, W65, rfl, Le.refl _ _, rfl, hm⟩ ?_
    rintro (_ | m78) _ _ σ ⟨y72, y73, j74, j75, W76, rfl, l76, rfl, hm⟩
    ·cases hm
    unfold Vm.laws_FnBlameLine_l1 at hm
    have a79 := a66.n l76
    have o80 := (o53.up l65).up l76
    have o82 := (((f17_0.up l23).up l51).up l65).up l76
    have b85 := ((b29.up l51).up l65).up l76
    refine ssr (mi rfl (mv v0_17 rfl (Lw.ln z15 o82.rd rfl (Lw.lt rfl (nl (cn hm (fun hm => ?_) fun hm => ?_))))))
    ·refine sk (Cw.seq (Cw.block (Cw.seq (Cw.draw [] [(0, 0), (1, 1), (2, 0), (3, 0), (4, 0), (5, 1), (6, 0), (7, 0), (8, 1), (9, 0), (10, 2), (11, 0), (12, 0), (13, 0), (14, 0), (15, 0)] mixed (by kernel_rfl) fun W87 l87 => ?_))))
     have a88 := a79.n l87
     have o89 := o80.up l87
     have o91 := o82.up l87
     refine Dfl (b85.up l87) rfl rfl rfl (Dv v0_17 rfl (Di rfl ?_))
     obtain ⟨u95, e96, hm⟩ := ob hm
     refine Mw.p rfl rfl (fun _ => R.ix (α := Int) o91.rd e96 rfl rfl rfl) (Mw.q rfl rfl (fun _ c => R.ld rfl rfl (cl_cell (o91.rd.at_ e96).1 rfl (o91.rd.at_ e96).int c)) ?_)
     obtain ⟨u97, e98, hm⟩ := ob hm
     refine Mw.p rfl rfl (fun _ => R.ix (α := Commit) o89.rd e98 rfl rfl rfl) (Df rfl ?_)
     obtain ⟨v99, c100, r101⟩ := (Commit.at2 (o89.rd.at_ e98)).cell rfl
     refine Mw.q rfl rfl (fun _ c => R.ld rfl rfl (cl_cell (Commit.at2 (o89.rd.at_ e98)).1 rfl c100 c)) (Ds rfl ?_)
     obtain ⟨z103, e104, hm⟩ := ob hm
     refine Mw.t rfl rfl (T.call rfl (p26 (K := [0, 2]) (k0 := 9) (r101.sub (M := [0, 2]) rfl) ((h99.ul a88).sub (M := [0, 2]) rfl) e104)) ?_
     rintro _ _ ⟨W105, rfl, l105, ⟨v0_105, rfl, f105_0⟩⟩
     have a106 := a88.n l105
     refine m0 l105 fun d105 => Dv (.tuple [v0_105, vB z103.2].toArray) rfl (Mw.p rfl rfl (fun _ => R.ext (vs := [v0_105, vB z103.2]) (v := v0_105) rfl rfl) (Mw.p rfl rfl (fun _ => R.ext (vs := [v0_105, vB z103.2]) (v := vB z103.2) rfl rfl) (Hv v0_105 rfl (Hb rfl (Mw.nil ?_)))))
     obtain ⟨K115, hK115, hm⟩ := jn_e hm
     refine Cw.join 83 100 [100] (fun l w => ∃ y113 W114, CW.w W114 = w ∧ Le [] W105 W114 ∧ l = [vB y113] ∧ K115 y113 = some r) ?_ ?_
     ·rintro _ _ σ ⟨y113, W114, rfl, l114, rfl, hm⟩
      rw [hK115] at hm
      have a116 := a106.n l114
      refine cn hm (fun hm => ?_) fun hm => ?_
      ·exact sr (Nb rfl (.ret (rt hm a116)))
      ·exact sk (rg (mi rfl (Lw.add rfl (Ni rfl ((agm) ⟨y72, w64 (y73 + 1), v0_105, vB z103.2, W114, rfl, (((l76.j l87).j l105).j l114).w, rfl, hm⟩)))))
     ·refine Cw.draw [] [(0, 0), (1, 0), (2, 0), (3, 1), (4, 0), (5, 0), (6, 0), (7, 1), (8, 0), (9, 0), (10, 0), (11, 0), (12, 0), (13, 0), (14, 1), (15, 2), (16, 0), (17, 0)] mixed (by kernel_rfl) fun W125 l125 => ?_
      have o129 := (o91.up l105).up l125
      have o130 := ((((f51_0.up l65).up l76).up l87).up l105).up l125
      have o131 := (((f65_0.up l76).up l87).up l105).up l125
      refine Dv v0_51 rfl (Di rfl ?_)
      obtain ⟨u134, e135, hm⟩ := ob hm
      refine Mw.p rfl rfl (fun _ => R.ix (α := Int) o130.rd e135 rfl rfl rfl) (Mw.q rfl rfl (fun _ c => R.ld rfl rfl (cl_cell (o130.rd.at_ e135).1 rfl (o130.rd.at_ e135).int c)) (Dv v0_17 rfl (Di rfl ?_)))
      obtain ⟨u136, e137, hm⟩ := ob hm
      refine Mw.p rfl rfl (fun _ => R.ix (α := Int) o129.rd e137 rfl rfl rfl) (Mw.q rfl rfl (fun _ c => R.ld rfl rfl (cl_cell (o129.rd.at_ e137).1 rfl (o129.rd.at_ e137).int c)) (Mw.p rfl rfl (fun _ => R.ne rfl rfl) (Db rfl (bs hm (fun hc138 hm => ?_) fun hc138 hm => ?_))))
      ·exact dps 7 hc138 rfl (Mw.p rfl rfl (fun _ => R.pk hc138 rfl (v := vB true) rfl) (Mw.nil ((ag) ⟨true, W125, rfl, l125, rfl, hm⟩)))
      ·refine Wp hc138 rfl (fun _ => R.mv (v := v0_105) rfl) (Wp hc138 rfl (fun _ => R.mv (v := v0_65) rfl) (Wp hc138 rfl (fun _ => R.mv (v := vI z2.2.2.2) rfl) ?_))
       obtain ⟨u139, e140, hm⟩ := ob hm
       refine Wp hc138 rfl (fun _ => R.ix (α := Str) o131.rd e140 rfl rfl rfl) (Wq hc138 rfl (fun _ c => R.ld rfl rfl (cl_cell (o131.rd.at_ e140).1 rfl (o131.rd.at_ e140).str c)) ?_)
       obtain ⟨z141, e142, hm⟩ := ob hm
       refine Wt hc138 rfl (T.call rfl (p29 (K := [9])  (f105_0.up l125).rd e142)) ?_
       rintro _ _ ⟨W143, rfl, l143, rfl⟩
       exact m0 l143 fun d143 => Wp hc138 rfl (fun _ => R.not rfl) (Mw.p rfl rfl (fun _ => R.pk hc138 rfl (v := vB (!z141)) rfl) (Mw.nil ((ag) ⟨(!z141), W143, rfl, (l125.j l143).w, rfl, hm⟩)))
    ·refine Cw.exit ?_
     rw [hK77] at hm
     refine Cw.seq ?_
     obtain ⟨z161, e162, hm⟩ := ob hm
     obtain ⟨u171, e172, hm⟩ := ob hm
     obtain ⟨u173, e174, hm⟩ := ob hm
     refine Cw.par [[], [], [], [0, 1, 2], [], [0, 1, 2, 3, 4], [0, 1, 2, 3, 4, 5], [], [], [8], [8, 9], [7, 8, 9, 10], [7, 8, 9, 10, 11], [0, 1, 2, 3, 4, 5, 6, 7, 8, 9, 10, 11, 12], [0, 1, 2, 3, 4, 5, 6, 7, 8, 9, 10, 11, 12, 13]] [[], [], [], [0, 1, 2], [], [3, 4], [3, 5], [], [], [8], [9], [7, 10], [11], [6, 12], [13]] [[], [], [], [], [], [], [], [], [], [], [], [], [], [], []] [[0], [1], [2], [3], [4], [3, 5], [6], [7], [8], [9], [10], [11], [12], [13], [14]] [[], [], [], [10], [], [], [], [], [], [], [], [], [], [], []] [0, 1, 2, 3, 4, 5, 6, 7, 8, 9, 10, 11, 12, 13, 14] [] [fun vs W => (vs 0) = .agg [v0_0_4, v0_1_4].toArray, fun vs W => (vs 1) = vI z2.2.1, fun vs W => (vs 2) = vS z2.2.2.1, fun vs W => Ow W 10 [] [(vs 3)] z161, fun vs W => (vs 4) = vI z2.2.2.2, fun vs W => (vs 5) = ptr ((slA (vs 3)).add ((z2.2.2.2).toNat * Rp.sz (Int))), fun vs W => (vs 6) = vI u171, fun vs W => (vs 7) = v0_17, fun vs W => (vs 8) = v0_17, fun vs W => (vs 9) = vI (z15.length : Int), fun vs W => (vs 10) = vI (w64 ((z15.length : Int) - 1)), fun vs W => (vs 11) = ptr ((slA v0_17).add ((w64 ((z15.length : Int) - 1)).toNat * Rp.sz (Int))), fun vs W => (vs 12) = vI u173, fun vs W => (vs 13) = vB ((u171 : Int) == (u173 : Int)), fun vs W => (vs 14) = vB ((u171 : Int) == (u173 : Int))] [] mixed (by kernel_rfl) rfl AllF.nil ?_
     intro W175 l175
     have a176 := a79.n l175
     have o179 := o82.up l175
     refine ⟨(Steps.cons ?_ (Steps.cons ?_ (Steps.cons ?_ (Steps.cons ?_ (Steps.cons ?_ (Steps.cons ?_ (Steps.cons ?_ (Steps.cons ?_ (Steps.cons ?_ (Steps.cons ?_ (Steps.cons ?_ (Steps.cons ?_ (Steps.cons ?_ (Steps.cons ?_ (Steps.cons ?_ Steps.nil))))))))))))))), (Sups.cons (fun vs vs' W W' _ hv l hd h => by (show (vs' 0) = .agg [v0_0_4, v0_1_4].toArray); rw [hv 0 (anyb rfl)]; exact h) (Sups.cons (fun vs vs' W W' _ hv l hd h => by (show (vs' 1) = vI z2.2.1); rw [hv 1 (anyb rfl)]; exact h) (Sups.cons (fun vs vs' W W' _ hv l hd h => by (show (vs' 2) = vS z2.2.2.1); rw [hv 2 (anyb rfl)]; exact h) (Sups.cons (fun vs vs' W W' _ hv l hd h => by (show Ow W' 10 [] [(vs' 3)] z161); rw [hv 3 (anyb rfl)]; exact h.upv l (disj_mem hd (c := 10) rfl)) (Sups.cons (fun vs vs' W W' _ hv l hd h => by (show (vs' 4) = vI z2.2.2.2); rw [hv 4 (anyb rfl)]; exact h) (Sups.cons (fun vs vs' W W' _ hv l hd h => by (show (vs' 5) = ptr ((slA (vs' 3)).add ((z2.2.2.2).toNat * Rp.sz (Int)))); rw [hv 3 (anyb rfl), hv 5 (anyb rfl)]; exact h) (Sups.cons (fun vs vs' W W' _ hv l hd h => by (show (vs' 6) = vI u171); rw [hv 6 (anyb rfl)]; exact h) (Sups.cons (fun vs vs' W W' _ hv l hd h => by (show (vs' 7) = v0_17); rw [hv 7 (anyb rfl)]; exact h) (Sups.cons (fun vs vs' W W' _ hv l hd h => by (show (vs' 8) = v0_17); rw [hv 8 (anyb rfl)]; exact h) (Sups.cons (fun vs vs' W W' _ hv l hd h => by (show (vs' 9) = vI (z15.length : Int)); rw [hv 9 (anyb rfl)]; exact h) (Sups.cons (fun vs vs' W W' _ hv l hd h => by (show (vs' 10) = vI (w64 ((z15.length : Int) - 1))); rw [hv 10 (anyb rfl)]; exact h) (Sups.cons (fun vs vs' W W' _ hv l hd h => by (show (vs' 11) = ptr ((slA v0_17).add ((w64 ((z15.length : Int) - 1)).toNat * Rp.sz (Int)))); rw [hv 11 (anyb rfl)]; exact h) (Sups.cons (fun vs vs' W W' _ hv l hd h => by (show (vs' 12) = vI u173); rw [hv 12 (anyb rfl)]; exact h) (Sups.cons (fun vs vs' W W' _ hv l hd h => by (show (vs' 13) = vB ((u171 : Int) == (u173 : Int))); rw [hv 13 (anyb rfl)]; exact h) (Sups.cons (fun vs vs' W W' _ hv l hd h => by (show (vs' 14) = vB ((u171 : Int) == (u173 : Int))); rw [hv 14 (anyb rfl)]; exact h) Sups.nil))))))))))))))), ?_⟩
     ·intro vs W lW hN
      obtain ⟨W183, hW183⟩ : ∃ X, X = W := ⟨W, rfl⟩
      subst hW183
      refine Tr.mono (Run.tr (R.lda (cs := [v0_0_4, v0_1_4]) ((b85.up l175).up lW rfl).cells rfl rfl)) ?_
      rintro _ _ ⟨hu, rfl⟩
      obtain rfl := hu.symm
      exact ⟨W183, rfl, Le.refl _ _, (show (.agg [v0_0_4, v0_1_4].toArray : Value) = .agg [v0_0_4, v0_1_4].toArray from rfl)⟩
     ·intro vs W lW hN
      obtain ⟨W191, hW191⟩ : ∃ X, X = W := ⟨W, rfl⟩
      subst hW191
      refine Tr.mono (Run.tr (R.mv (v := vI z2.2.1) rfl)) ?_
      rintro _ _ ⟨hu, rfl⟩
      obtain rfl := hu.symm
      exact ⟨W191, rfl, Le.refl _ _, (show (vI z2.2.1 : Value) = vI z2.2.1 from rfl)⟩
     ·intro vs W lW hN
      obtain ⟨W199, hW199⟩ : ∃ X, X = W := ⟨W, rfl⟩
      subst hW199
      refine Tr.mono (Run.tr (R.mv (v := vS z2.2.2.1) rfl)) ?_
      rintro _ _ ⟨hu, rfl⟩
      obtain rfl := hu.symm
      exact ⟨W199, rfl, Le.refl _ _, (show (vS z2.2.2.1 : Value) = vS z2.2.2.1 from rfl)⟩
     ·intro vs W lW hN
      obtain ⟨W207, hW207⟩ : ∃ X, X = W := ⟨W, rfl⟩
      subst hW207
      have a208 := a176.n lW
      have e0_ : vs 0 = .agg [v0_0_4, v0_1_4].toArray := (hN 0 (anyb rfl))
      obtain ⟨vs, rfl⟩ := up_eq e0_
      have e1_ : vs 1 = vI z2.2.1 := (hN 1 (anyb rfl))
      obtain ⟨vs, rfl⟩ := up_eq e1_
      have e2_ : vs 2 = vS z2.2.2.1 := (hN 2 (anyb rfl))
      obtain ⟨vs, rfl⟩ := up_eq e2_
      refine Tr.mono (T.call rfl (p23 (K := [0, 2, 3]) (k0 := 10) (x0 := (Vm.Repo.mk z2.1.Commits z2.1.Heads)) ((Repo.rd (K := [2, 3]) z2.1.Commits z2.1.Heads (((o80.up l175).up lW rfl).rd.sub (M := [2, 3]) rfl) ((((((o27.up l51).up l65).up l76).up l175).up lW rfl).rd.sub (M := [2, 3]) rfl)).sub (M := [0, 2, 3]) rfl) ((h99.ul a208).sub (M := [0, 2, 3]) rfl) e162)) ?_
      rintro v0_216 _ ⟨W216, rfl, l216, ⟨_, rfl, f216_0⟩⟩
      exact ⟨W216, rfl, l216, (show Ow W216 10 [] [v0_216] z161 from f216_0)⟩
     ·intro vs W lW hN
      obtain ⟨W224, hW224⟩ : ∃ X, X = W := ⟨W, rfl⟩
      subst hW224
      refine Tr.mono (Run.tr (R.mv (v := vI z2.2.2.2) rfl)) ?_
      rintro _ _ ⟨hu, rfl⟩
      obtain rfl := hu.symm
      exact ⟨W224, rfl, Le.refl _ _, (show (vI z2.2.2.2 : Value) = vI z2.2.2.2 from rfl)⟩
     ·intro vs W lW hN
      obtain ⟨W232, hW232⟩ : ∃ X, X = W := ⟨W, rfl⟩
      subst hW232
      obtain ⟨pv3, e3_⟩ : ∃ v, vs 3 = v := ⟨_, rfl⟩
      obtain ⟨vs, rfl⟩ := up_eq e3_
      have o240 : Ow W232 10 [] [pv3] z161 := (hN 3 (anyb rfl))
      have e4_ : vs 4 = vI z2.2.2.2 := (hN 4 (anyb rfl))
      obtain ⟨vs, rfl⟩ := up_eq e4_
      refine Tr.mono (Run.tr (R.ix (α := Int) o240.rd e172 rfl rfl rfl)) ?_
      rintro _ _ ⟨hu, rfl⟩
      obtain rfl := hu.symm
      exact ⟨W232, rfl, Le.refl _ _, (show (ptr ((slA pv3).add ((z2.2.2.2).toNat * Rp.sz (Int))) : Value) = ptr ((slA pv3).add ((z2.2.2.2).toNat * Rp.sz (Int))) from rfl)⟩
     ·intro vs W lW hN
      obtain ⟨W241, hW241⟩ : ∃ X, X = W := ⟨W, rfl⟩
      subst hW241
      obtain ⟨pv3, e3_⟩ : ∃ v, vs 3 = v := ⟨_, rfl⟩
      obtain ⟨vs, rfl⟩ := up_eq e3_
      have o249 : Ow W241 10 [] [pv3] z161 := (hN 3 (anyb rfl))
      have e5_ : vs 5 = ptr ((slA pv3).add ((z2.2.2.2).toNat * Rp.sz (Int))) := (hN 5 (anyb rfl))
      obtain ⟨vs, rfl⟩ := up_eq e5_
      refine Tr.mono (Run.tr (R.ld rfl rfl (o249.rd.at_ e172).int)) ?_
      rintro _ _ ⟨hu, rfl⟩
      obtain rfl := hu.symm
      exact ⟨W241, rfl, Le.refl _ _, (show (vI u171 : Value) = vI u171 from rfl)⟩
     ·intro vs W lW hN
      obtain ⟨W250, hW250⟩ : ∃ X, X = W := ⟨W, rfl⟩
      subst hW250
      refine Tr.mono (Run.tr (R.mv (v := v0_17) rfl)) ?_
      rintro _ _ ⟨hu, rfl⟩
      obtain rfl := hu.symm
      exact ⟨W250, rfl, Le.refl _ _, (show (v0_17 : Value) = v0_17 from rfl)⟩
     ·intro vs W lW hN
      obtain ⟨W258, hW258⟩ : ∃ X, X = W := ⟨W, rfl⟩
      subst hW258
      refine Tr.mono (Run.tr (R.mv (v := v0_17) rfl)) ?_
      rintro _ _ ⟨hu, rfl⟩
      obtain rfl := hu.symm
      exact ⟨W258, rfl, Le.refl _ _, (show (v0_17 : Value) = v0_17 from rfl)⟩
     ·intro vs W lW hN
      obtain ⟨W266, hW266⟩ : ∃ X, X = W := ⟨W, rfl⟩
      subst hW266
      have e8_ : vs 8 = v0_17 := (hN 8 (anyb rfl))
      obtain ⟨vs, rfl⟩ := up_eq e8_
      refine Tr.mono (Run.tr (lenR (xs := z15) (o179.up lW rfl).rd rfl)) ?_
      rintro _ _ ⟨hu, rfl⟩
      obtain rfl := hu.symm
      exact ⟨W266, rfl, Le.refl _ _, (show (vI (z15.length : Int) : Value) = vI (z15.length : Int) from rfl)⟩
     ·intro vs W lW hN
      obtain ⟨W274, hW274⟩ : ∃ X, X = W := ⟨W, rfl⟩
      subst hW274
      have e9_ : vs 9 = vI (z15.length : Int) := (hN 9 (anyb rfl))
      obtain ⟨vs, rfl⟩ := up_eq e9_
      refine Tr.mono (Run.tr (R.sub rfl rfl)) ?_
      rintro _ _ ⟨hu, rfl⟩
      obtain rfl := hu.symm
      exact ⟨W274, rfl, Le.refl _ _, (show (vI (w64 ((z15.length : Int) - 1)) : Value) = vI (w64 ((z15.length : Int) - 1)) from rfl)⟩
     ·intro vs W lW hN
      obtain ⟨W282, hW282⟩ : ∃ X, X = W := ⟨W, rfl⟩
      subst hW282
      have e7_ : vs 7 = v0_17 := (hN 7 (anyb rfl))
      obtain ⟨vs, rfl⟩ := up_eq e7_
      have e10_ : vs 10 = vI (w64 ((z15.length : Int) - 1)) := (hN 10 (anyb rfl))
      obtain ⟨vs, rfl⟩ := up_eq e10_
      refine Tr.mono (Run.tr (R.ix (α := Int) (o179.up lW rfl).rd e174 rfl rfl rfl)) ?_
      rintro _ _ ⟨hu, rfl⟩
      obtain rfl := hu.symm
      exact ⟨W282, rfl, Le.refl _ _, (show (ptr ((slA v0_17).add ((w64 ((z15.length : Int) - 1)).toNat * Rp.sz (Int))) : Value) = ptr ((slA v0_17).add ((w64 ((z15.length : Int) - 1)).toNat * Rp.sz (Int))) from rfl)⟩
     ·intro vs W lW hN
      obtain ⟨W290, hW290⟩ : ∃ X, X = W := ⟨W, rfl⟩
      subst hW290
      have e11_ : vs 11 = ptr ((slA v0_17).add ((w64 ((z15.length : Int) - 1)).toNat * Rp.sz (Int))) := (hN 11 (anyb rfl))
      obtain ⟨vs, rfl⟩ := up_eq e11_
      refine Tr.mono (Run.tr (R.ld rfl rfl ((o179.up lW rfl).rd.at_ e174).int)) ?_
      rintro _ _ ⟨hu, rfl⟩
      obtain rfl := hu.symm
      exact ⟨W290, rfl, Le.refl _ _, (show (vI u173 : Value) = vI u173 from rfl)⟩
     ·intro vs W lW hN
      obtain ⟨W298, hW298⟩ : ∃ X, X = W := ⟨W, rfl⟩
      subst hW298
      have e6_ : vs 6 = vI u171 := (hN 6 (anyb rfl))
      obtain ⟨vs, rfl⟩ := up_eq e6_
      have e12_ : vs 12 = vI u173 := (hN 12 (anyb rfl))
      obtain ⟨vs, rfl⟩ := up_eq e12_
      refine Tr.mono (Run.tr (R.eq rfl rfl)) ?_
      rintro _ _ ⟨hu, rfl⟩
      obtain rfl := hu.symm
      exact ⟨W298, rfl, Le.refl _ _, (show (vB ((u171 : Int) == (u173 : Int)) : Value) = vB ((u171 : Int) == (u173 : Int)) from rfl)⟩
     ·intro vs W lW hN
      obtain ⟨W306, hW306⟩ : ∃ X, X = W := ⟨W, rfl⟩
      subst hW306
      have e13_ : vs 13 = vB ((u171 : Int) == (u173 : Int)) := (hN 13 (anyb rfl))
      obtain ⟨vs, rfl⟩ := up_eq e13_
      refine Tr.mono (Run.tr (R.as (v := vB ((u171 : Int) == (u173 : Int))) rfl)) ?_
      rintro _ _ ⟨hu, rfl⟩
      obtain rfl := hu.symm
      exact ⟨W306, rfl, Le.refl _ _, (show (vB ((u171 : Int) == (u173 : Int)) : Value) = vB ((u171 : Int) == (u173 : Int)) from rfl)⟩
     ·intro vs W lW hN
      obtain ⟨W314, hW314⟩ : ∃ X, X = W := ⟨W, rfl⟩
      subst hW314
      have a315 := a176.n lW
      obtain ⟨l314, hl314⟩ : ∃ x, x = lW := ⟨lW, rfl⟩
      have e0_ : vs 0 = .agg [v0_0_4, v0_1_4].toArray := (hN 0 (anyb rfl))
      obtain ⟨vs, rfl⟩ := up_eq e0_
      have e1_ : vs 1 = vI z2.2.1 := (hN 1 (anyb rfl))
      obtain ⟨vs, rfl⟩ := up_eq e1_
      have e2_ : vs 2 = vS z2.2.2.1 := (hN 2 (anyb rfl))
      obtain ⟨vs, rfl⟩ := up_eq e2_
      obtain ⟨pv3, e3_⟩ : ∃ v, vs 3 = v := ⟨_, rfl⟩
      obtain ⟨vs, rfl⟩ := up_eq e3_
      have o322 : Ow W314 10 [] [pv3] z161 := (hN 3 (anyb rfl))
      have e4_ : vs 4 = vI z2.2.2.2 := (hN 4 (anyb rfl))
      obtain ⟨vs, rfl⟩ := up_eq e4_
      have e5_ : vs 5 = ptr ((slA pv3).add ((z2.2.2.2).toNat * Rp.sz (Int))) := (hN 5 (anyb rfl))
      obtain ⟨vs, rfl⟩ := up_eq e5_
      have e6_ : vs 6 = vI u171 := (hN 6 (anyb rfl))
      obtain ⟨vs, rfl⟩ := up_eq e6_
      have e7_ : vs 7 = v0_17 := (hN 7 (anyb rfl))
      obtain ⟨vs, rfl⟩ := up_eq e7_
      have e8_ : vs 8 = v0_17 := (hN 8 (anyb rfl))
      obtain ⟨vs, rfl⟩ := up_eq e8_
      have e9_ : vs 9 = vI (z15.length : Int) := (hN 9 (anyb rfl))
      obtain ⟨vs, rfl⟩ := up_eq e9_
      have e10_ : vs 10 = vI (w64 ((z15.length : Int) - 1)) := (hN 10 (anyb rfl))
      obtain ⟨vs, rfl⟩ := up_eq e10_
      have e11_ : vs 11 = ptr ((slA v0_17).add ((w64 ((z15.length : Int) - 1)).toNat * Rp.sz (Int))) := (hN 11 (anyb rfl))
      obtain ⟨vs, rfl⟩ := up_eq e11_
      have e12_ : vs 12 = vI u173 := (hN 12 (anyb rfl))
      obtain ⟨vs, rfl⟩ := up_eq e12_
      have e13_ : vs 13 = vB ((u171 : Int) == (u173 : Int)) := (hN 13 (anyb rfl))
      obtain ⟨vs, rfl⟩ := up_eq e13_
      have e14_ : vs 14 = vB ((u171 : Int) == (u173 : Int)) := (hN 14 (anyb rfl))
      obtain ⟨vs, rfl⟩ := up_eq e14_
      exact .ret (rt hm a315)
  ·refine rg (mv v0_17 rfl (la (b10.up l17) (mi rfl (ms rfl (mi rfl (cr hm (fun _ => p52 (K := [2, 3]) (k0 := 11) (x0 := (Vm.Repo.mk z2.1.Commits z2.1.Heads)) (Repo.rd (K := [2, 3]) z2.1.Commits z2.1.Heads ((o12.up l17).rd.sub (M := [2, 3]) rfl) ((o13.up l17).rd.sub (M := [2, 3]) rfl))) ?_))))))
   rintro z323 v0_325 W325 hm l325 ⟨_, rfl, f325_0⟩
   refine ca hm (fun _ => p24 (K := [5, 11]) ((f17_0.up l325).rd.sub (M := [5, 11]) rfl) (f325_0.rd.sub (M := [5, 11]) rfl)) fun z331 W333 hm l333 => Lw.r rfl (R.not rfl) (mb rfl (bs hm (fun hc340 hm => ?_) fun hc340 hm => ?_))
   ·exact psk 3 hc340 rfl (Pb hc340 rfl (nl ((ag) ⟨true, W333, rfl, (l325.j l333).w, rfl, hm⟩)))
   ·exact wak 3 hc340 (mv v0_17 rfl (Lw.ln z15 ((f17_0.up l325).up l333).rd rfl (Lw.eq rfl (Pb hc340 rfl (nl ((ag) ⟨(((z15.length : Int) : Int) == (0 : Int)), W333, rfl, (l325.j l333).w, rfl, hm⟩))))))
theorem p8 {x0 v0_ r} (h0 : Rd W K [v0_] x0) (h99 : Gl 0 W K) (hm : Vm.laws_FnBlameLine x0 = some r) : Q1 8 [v0_] W [] fun W' v => v = vB r :=
 (c8 (h0.view _) (h99.view _) hm).ad (fk 0) fun _ _ e => e
end Go.Sx
