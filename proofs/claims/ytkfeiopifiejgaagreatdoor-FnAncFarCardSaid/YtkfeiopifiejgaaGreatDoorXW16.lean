/- Walks: each function answers as its model, printed by a program of ours. Conditions: the arguments read as they are given. -/
import Derived.Test.YtkfeiopifiejgaaGreatDoorXTs
import Derived.Test.YtkfeiopifiejgaaGreatDoorXM10
import Derived.Test.YtkfeiopifiejgaaGreatDoorXW0
import Derived.Test.YtkfeiopifiejgaaGreatDoorXW1
import Derived.Test.YtkfeiopifiejgaaGreatDoorXW10
import Derived.Test.YtkfeiopifiejgaaGreatDoorXW6
import Derived.Test.YtkfeiopifiejgaaGreatDoorXW7
import Derived.Test.YtkfeiopifiejgaaGreatDoorXW8
namespace Go.Sx
open Go Go.Proofs Go.Vm Rp
set_option linter.unusedVariables false
set_option linter.unusedSimpArgs false

variable {W W0 : CW} {K : List Nat}
theorem c36 {x0 v0_ r} (h0 : Rd W0 [0] [v0_] x0) (hm : Vm.spec_DrawRepoTree x0 = some r) : Q0 36 [v0_] W0 fun Wf v => ∃ u0_0 u0_1, v = .tuple [.agg [u0_0, u0_1].toArray, vI r.2].toArray ∧ OwS Wf [31] [] [u0_0] r.1.Commits ∧ OwS Wf [32] [] [u0_1] r.1.Heads := by
 unfold Vm.spec_DrawRepoTree at hm
 refine CallR.of Tryz.func36 rfl rfl rfl rfl (sr (al 2 [.slice none 0 0, .slice none 0 0] fun g1 W1 l1 b1 => ?_))
 have a2 := l1.o
 refine Ni rfl (sr (mv v0_ rfl (cr hm (fun _ => p41 (k0 := 3) (h0.ul a2)) ?_)))
 rintro z4 _ W6 hm l6 ⟨g0_6, v0_0_6, rfl, f6_0, f6_1⟩
 have s7 := f6_1.sub (M := [0]) rfl
 have a8 := a2.n l6
 refine Np rfl (sr (mp rfl (cr hm (fun _ => p42 (k0 := 4) (k1 := 5) (c0 := 3) (x0 := z4) f6_0 s7 rfl) ?_)))
 rintro z10 _ W12 hm l12 ⟨v0_0_12, v0_1_12, rfl, f12_0, f12_1, f12_2⟩
 have a13 := l12.s
 refine al 6 [.slice none 0 0, .slice none 0 0] fun g15 W15 l15 b15 => ?_
 have a16 := l15.o
 refine sta b15 (oc_cons (f12_0.up l15).oc (oc_cons (f12_1.up l15).oc oc_nil)) fun W21 l21 b21 => ?_
 have a22 := l21.s
 refine nl (Cw.seq (Cw.draw [2, 3] [(0, 1), (1, 0), (2, 1), (3, 2), (4, 2), (5, 0)] mixed (by kernel_rfl) fun W27 l27 => ?_))
 have a28 := l27.o
 have o29 := ((f12_0.up l15).up l21).up l27
 have o30 := ((f12_1.up l15).up l21).up l27
 refine Mw.q rfl rfl (fun _ c => R.lda (cs := [v0_0_12, v0_1_12]) ((b21.up l27).clcs rfl c) rfl rfl) (Dp rfl (Mw.q rfl rfl (fun _ c => R.lda (cs := [v0_0_12, v0_1_12]) ((b21.up l27).clcs rfl c) rfl rfl) ?_))
 obtain ⟨z35, e36, hm⟩ := ob hm
 refine Mw.t rfl rfl (T.call rfl (p43 (K := [0, 4, 5])  (c0 := 3) (x0 := (Vm.l30Rd.mk z4.b z10.2)) (x1 := (Vm.Repo.mk z10.1.Commits z10.1.Heads)) (((f12_2.up l15).up l21).up l27) ((s7.ul (((a13.trans a16).trans a22).trans a28)).sub (M := [0, 4, 5]) rfl) ((Repo.rd (K := [4, 5]) z10.1.Commits z10.1.Heads (o29.rd.sub (M := [4, 5]) rfl) (o30.rd.sub (M := [4, 5]) rfl)).sub (M := [0, 4, 5]) rfl) rfl e36)) ?_
 rintro _ _ ⟨W37, rfl, l37, ⟨rfl, f37_0⟩⟩
 have a38 := ((((a8.trans a13).trans a16).trans a22).trans a28).t l37
 refine m0 l37 fun d37 => Mw.tu rfl (T.sta (vs := [v0_0_12, v0_1_12]) ((((((b1.up l6).up l12).up l15).up l21).up l27).up l37) rfl rfl (oc_cons (o29.up l37).oc (oc_cons (o30.up l37).oc oc_nil)) rfl rfl) ?_
 rintro _ _ ⟨W43, rfl, l43, b43⟩
 have a44 := a38.t l43
 refine mc d37 l43 fun d43 => Hi rfl (Mw.nil ?_)
 obtain ⟨W49, ew49, l49, o49⟩ := ((o29.up l37).up l43).dyeO 31
 have a50 := a44.t l49
 obtain ⟨W55, ew55, l55, o55⟩ := (((o30.up l37).up l43).up l49).dyeO 32
 have a56 := a50.t l55
 cases hm
 rw [← ew55.trans (ew49)]
 exact Cw.ret (retA2 rfl ((b43.up l49).up l55) rfl (Res.mk a56 ⟨v0_0_12, v0_1_12, rfl, (o49.up l55).s, o55.s⟩))

theorem p36 {x0 v0_ k0 k1 r} (h0 : Rd W K [v0_] x0) (hm : Vm.spec_DrawRepoTree x0 = some r) : Q1 36 [v0_] W [] fun W' v => ∃ u0_0 u0_1, v = .tuple [.agg [u0_0, u0_1].toArray, vI r.2].toArray ∧ Ow W' k0 [] [u0_0] r.1.Commits ∧ Ow W' k1 [] [u0_1] r.1.Heads :=
 CallR.adJ (J := []) (fun c => bif Nat.beq c 0 then 0 else bif Nat.beq c 31 then k0 else bif Nat.beq c 32 then k1 else 0) (c36 (h0.view _) hm) fun _ _ ⟨u0_0, u0_1, e, f0, f1⟩ => ⟨u0_0, u0_1, e, f0.one1.backN rfl, f1.one1.backN rfl⟩

theorem c10 {x0 v0_ r} (h0 : Rd W0 [0] [v0_] x0) (hm : Vm.spec_DrawAncFar x0 = some r) : Q0 10 [v0_] W0 fun Wf v => ∃ u0_0 u0_1, v = .tuple [.agg [u0_0, u0_1].toArray, vI r.2].toArray ∧ OwS Wf [31] [] [u0_0] r.1.Commits ∧ OwS Wf [32] [] [u0_1] r.1.Heads := by
 unfold Vm.spec_DrawAncFar at hm
 refine CallR.of Tryz.func10 rfl rfl rfl rfl (sr (al 2 [.slice none 0 0, .slice none 0 0] fun g1 W1 l1 b1 => ?_))
 have a2 := l1.o
 refine Ni rfl (sr (mv v0_ rfl (cr hm (fun _ => p36 (k0 := 3) (k1 := 4) (h0.ul a2)) ?_)))
 rintro z4 _ W6 hm l6 ⟨v0_0_6, v0_1_6, rfl, f6_0, f6_1⟩
 have a7 := a2.n l6
 refine Lw.r rfl (R.ext (vs := [.agg [v0_0_6, v0_1_6].toArray, vI z4.2]) (v := .agg [v0_0_6, v0_1_6].toArray) rfl rfl) (Lw.r rfl (R.ext (vs := [.agg [v0_0_6, v0_1_6].toArray, vI z4.2]) (v := vI z4.2) rfl rfl) (sta (b1.up l6) (oc_cons f6_0.oc (oc_cons f6_1.oc oc_nil)) fun W9 l9 b9 => ?_))
 have a10 := a7.t l9
 refine Ni rfl ?_
 obtain ⟨W13, ew13, l13, o13⟩ := (f6_0.up l9).dyeO 31
 have a14 := a10.t l13
 obtain ⟨W17, ew17, l17, o17⟩ := ((f6_1.up l9).up l13).dyeO 32
 have a18 := a14.t l17
 cases hm
 rw [← ew17.trans (ew13)]
 exact Cw.ret (retA2 rfl ((b9.up l13).up l17) rfl (Res.mk a18 ⟨v0_0_6, v0_1_6, rfl, (o13.up l17).s, o17.s⟩))

theorem p10 {x0 v0_ k0 k1 r} (h0 : Rd W K [v0_] x0) (hm : Vm.spec_DrawAncFar x0 = some r) : Q1 10 [v0_] W [] fun W' v => ∃ u0_0 u0_1, v = .tuple [.agg [u0_0, u0_1].toArray, vI r.2].toArray ∧ Ow W' k0 [] [u0_0] r.1.Commits ∧ Ow W' k1 [] [u0_1] r.1.Heads :=
 CallR.adJ (J := []) (fun c => bif Nat.beq c 0 then 0 else bif Nat.beq c 31 then k0 else bif Nat.beq c 32 then k1 else 0) (c10 (h0.view _) hm) fun _ _ ⟨u0_0, u0_1, e, f0, f1⟩ => ⟨u0_0, u0_1, e, f0.one1.backN rfl, f1.one1.backN rfl⟩

theorem c11 {x0 v0_0_ v0_1_ x1 r} (h0 : Rd W0 [0] [v0_0_, v0_1_] x0) (h99 : Gl 0 W0 [0]) (hm : Vm.impl_AncFar x0 x1 = some r) : Q0 11 [.agg [v0_0_, v0_1_].toArray, vI x1] W0 fun Wf v => ∃ u0, v = u0 ∧ OwS Wf LL [] [u0] r := by
 unfold Vm.impl_AncFar at hm
 obtain ⟨w0_0, w0_1, he0, h0_0, h0_1⟩ := Repo.split h0
 simp only [List.cons.injEq, and_true, true_and] at he0
 obtain ⟨rfl, rfl⟩ := he0
 refine CallR.of Tryz.func11 rfl rfl rfl rfl (sr (bo 2 rfl fun g1 W1 l1 b1 => ?_))
 have a2 := l1.o
 refine Nv (.slice none 0 0) rfl (ssr (la b1 (mi rfl (Lw.t rfl (T.bsS (α := Int) (xs := [x1]) 3 [] (W := W1) [vI x1] (Each.cons ((rdI _)) Each.nil) rfl) ?_))))
 rintro v3 _ ⟨W3, rfl, l3, o3⟩
 have a4 := a2.n l3
 refine ca hm (fun _ => p37 (K := [0, 3]) ((Repo.rd (K := [0]) x0.Commits x0.Heads (h0_0.ul a4) (h0_1.ul a4)).sub (M := [0, 3]) rfl) (o3.rd.sub (M := [0, 3]) rfl) ((h99.ul a4).sub (M := [0, 3]) rfl)) fun z9 W11 hm l11 => ?_
 have a12 := a4.n l11
 have b14 := (b1.up l3).up l11
 refine Lw.r rfl (R.not rfl) (nl (cn hm (fun hm => ?_) fun hm => ?_))
 ·refine sr (Nv (.slice none 0 0) rfl ?_)
  cases hm
  exact Cw.ret (ret1 rfl (Res.mk a12 ⟨.slice none 0 0, rfl, (owsN []).sub rfl rfl⟩))
 ·refine sk (sr (fl b14 rfl (Lw.ln x0.Commits (h0_0.ul a12) rfl ?_)))
  obtain ⟨q17, e18, hm⟩ := ob hm
  refine Lw.t rfl (T.mk (α := Int) 4 [] (n := (x0.Commits.length : Int)) rfl rfl e18) ?_
  rintro v19 _ ⟨W19, rfl, l19, o19⟩
  have a20 := a12.n l19
  refine Nv v19 rfl (ssr (mv v19 rfl (Lw.ln q17 o19.rd rfl (mi rfl (nl (Cw.block ?_))))))
  obtain ⟨K28, hK28, hm⟩ := jn_e hm
  refine Cw.loop 21 27 [6, 21] (fun m l w => ∃ y24 y25 j23 W27, CW.w W27 = w ∧ Le [4] W19 W27 ∧ l = [j23, vI y24] ∧ Ow W27 4 [] [v19] y25 ∧ Vm.impl_AncFar_l1 q17 K28 m y24 y25 = some r) _ ⟨0, q17, undef, W19, rfl, Le.refl _ _, rfl, o19, hm⟩ ?_
  rintro (_ | m29) _ _ σ ⟨y24, y25, j23, W27, rfl, l27, rfl, o26, hm⟩
  ·cases hm
  unfold Vm.impl_AncFar_l1 at hm
  have a30 := a20.t l27
  refine sr (Lw.lt rfl (nl (Cw.seq (cn hm (fun hm => ?_) fun hm => ?_))))
  ·refine sk (Cw.seq (Cw.block (sr (mi rfl (Ni rfl (rg (mv v19 rfl (mi rfl ?_))))))))
   obtain ⟨u34, e35, hm⟩ := ob hm
   refine Lw.r rfl (R.ix (α := Int) o26.rd e35 rfl rfl rfl) ?_
   obtain ⟨q37, e38, hm⟩ := ob hm
   refine Lw.u (T.stS (K' := []) o26 (rdI _) e38 rfl rfl rfl) ?_
   rintro _ _ ⟨W36, rfl, l36, o36⟩
   exact nl (rg (Lw.add rfl (mi rfl (nl ((agm) ⟨w64 (y24 + 1), q37, vI y24, W36, rfl, (l27.j l36).w, rfl, o36, hm⟩)))))
  ·refine Cw.exit ?_
   rw [hK28] at hm
   refine sr (mv v19 rfl (mi rfl ?_))
   obtain ⟨u42, e43, hm⟩ := ob hm
   refine Lw.r rfl (R.ix (α := Int) o26.rd e43 rfl rfl rfl) ?_
   obtain ⟨q45, e46, hm⟩ := ob hm
   refine Lw.u (T.stS (K' := []) o26 (rdI _) e46 rfl rfl rfl) ?_
   rintro _ _ ⟨W44, rfl, l44, o44⟩
   have a47 := a30.t l44
   refine nl (ssr (mi rfl (Ni rfl (Cw.block ?_))))
   obtain ⟨K55, hK55, hm⟩ := jn_e hm
   refine Cw.loop 32 77 [7, 9] (fun m l w => ∃ y50 y52 j51 W54, CW.w W54 = w ∧ Le [4] W44 W54 ∧ l = [vI y50, j51] ∧ Ow W54 4 [] [v19] y52 ∧ Vm.impl_AncFar_l2 x0 K55 m y50 y52 = some r) _ ⟨x1, q45, undef, W44, rfl, Le.refl _ _, rfl, o44, hm⟩ ?_
   rintro (_ | m56) _ _ σ ⟨y50, y52, j51, W54, rfl, l54, rfl, o53, hm⟩
   ·cases hm
   unfold Vm.impl_AncFar_l2 at hm
   have a57 := a47.t l54
   refine ssr (mi rfl (Lw.ge rfl (nl (cn hm (fun hm => ?_) fun hm => ?_))))
   ·refine sk ?_
    obtain ⟨K65, hK65, hm⟩ := jn_e hm
    refine Cw.join 36 77 [9] (fun l w => ∃ y62 j61 W64, CW.w W64 = w ∧ Le [4] W54 W64 ∧ l = [j61] ∧ Ow W64 4 [] [v19] y62 ∧ K65 y62 = some r) ?_ ?_
    ·rintro _ _ σ ⟨y62, j61, W64, rfl, l64, rfl, o63, hm⟩
     rw [hK65] at hm
     exact rg (mi rfl (Lw.sub rfl (Ni rfl ((agm) ⟨w64 (y50 - 1), y62, j61, W64, rfl, (l54.j l64).w, rfl, o63, hm⟩))))
    ·refine Cw.block (ssr (mv v19 rfl (mi rfl ?_)))
     obtain ⟨u69, e70, hm⟩ := ob hm
     refine Lw.r rfl (R.ix (α := Int) o53.rd e70 rfl rfl rfl) (Lw.r rfl (R.ld rfl rfl (o53.rd.at_ e70).int) (Lw.lt rfl (nl (cn hm (fun hm => ?_) fun hm => ?_))))
     ·exact Cw.exit ((ag) ⟨y52, j51, W54, rfl, Le.refl _ _, rfl, o53, hm⟩)
     ·refine sk (sr (fl ((((b14.up l19).up l27).up l44).up l54) rfl (mi rfl ?_)))
      obtain ⟨u72, e73, hm⟩ := ob hm
      refine Lw.r rfl (R.ix (α := Commit) (h0_0.ul a57) e73 rfl rfl rfl) (Lw.fa rfl ?_)
      obtain ⟨v75, c76, r77⟩ := (Commit.at0 ((h0_0.ul a57).at_ e73)).cell rfl
      refine Lw.r rfl (R.ld rfl rfl c76) (Lw.ln u72.Parents r77 rfl (mi rfl (nl (Cw.block (Cw.loop 48 77 [9, 48] (fun m l w => ∃ y79 y80 j78 W82, CW.w W82 = w ∧ Le [4] W54 W82 ∧ l = [j78, vI y79] ∧ Ow W82 4 [] [v19] y80 ∧ Vm.impl_AncFar_l3 y50 K65 u72 m y79 y80 = some r) _ ⟨0, y52, j51, W54, rfl, Le.refl _ _, rfl, o53, hm⟩ ?_)))))
      rintro (_ | m84) _ _ σ ⟨y79, y80, j78, W82, rfl, l82, rfl, o81, hm⟩
      ·cases hm
      unfold Vm.impl_AncFar_l3 at hm
      have a85 := l82.s
      refine sr (Lw.lt rfl (nl (Cw.seq (cn hm (fun hm => ?_) fun hm => ?_))))
      ·refine sk ?_
       obtain ⟨K93, hK93, hm⟩ := jn_e hm
       refine Cw.join 50 76 [9] (fun l w => ∃ y90 j89 W92, CW.w W92 = w ∧ Le [4] W82 W92 ∧ l = [j89] ∧ Ow W92 4 [] [v19] y90 ∧ K93 y90 = some r) ?_ ?_
       ·rintro _ _ σ ⟨y90, j89, W92, rfl, l92, rfl, o91, hm⟩
        rw [hK93] at hm
        exact rg (Lw.add rfl (mi rfl (nl ((agm) ⟨w64 (y79 + 1), y90, j89, W92, rfl, (l82.j l92).w, rfl, o91, hm⟩))))
       ·refine Cw.block (sr ?_)
        obtain ⟨u97, e98, hm⟩ := ob hm
        refine Lw.r rfl (R.ix (α := Int) (r77.ul a85) e98 rfl rfl rfl) (Lw.r rfl (R.ld rfl rfl ((r77.ul a85).at_ e98).int) (Ni rfl ?_))
        obtain ⟨K102, hK102, hm⟩ := jn_e hm
        refine Cw.join 52 68 [68] (fun l w => ∃ y100 W101, CW.w W101 = w ∧ Le [] W82 W101 ∧ l = [vB y100] ∧ K102 y100 = some r) ?_ ?_
        ·rintro _ _ σ ⟨y100, W101, rfl, l101, rfl, hm⟩
         rw [hK102] at hm
         have o105 := o81.up l101
         refine cn hm (fun hm => ?_) fun hm => ?_
         ·refine rg (mv v19 rfl (mi rfl (mv v19 rfl (mi rfl ?_))))
          obtain ⟨u108, e109, hm⟩ := ob hm
          refine Lw.r rfl (R.ix (α := Int) o105.rd e109 rfl rfl rfl) (Lw.r rfl (R.ld rfl rfl (o105.rd.at_ e109).int) (Lw.add rfl ?_))
          obtain ⟨u110, e111, hm⟩ := ob hm
          refine Lw.r rfl (R.ix (α := Int) o105.rd e111 rfl rfl rfl) ?_
          obtain ⟨q113, e114, hm⟩ := ob hm
          refine Lw.u (T.stS (K' := []) o105 (rdI _) e114 rfl rfl rfl) ?_
          rintro _ _ ⟨W112, rfl, l112, o112⟩
          exact nl ((ag) ⟨q113, vI u97, W112, rfl, (l101.j l112).w, rfl, o112, hm⟩)
         ·exact sk ((ag) ⟨y80, vI u97, W101, rfl, l101.w, rfl, o105, hm⟩)
        ·refine Cw.draw [] [(0, 0), (1, 0), (2, 0), (3, 1), (4, 0), (5, 0), (6, 0), (7, 0), (8, 0), (9, 1), (10, 0), (11, 0), (12, 0), (13, 0), (14, 1), (15, 0), (16, 0)] mixed (by kernel_rfl) fun W118 l118 => ?_
         have o121 := o81.up l118
         refine Dv v19 rfl (Di rfl ?_)
         obtain ⟨u123, e124, hm⟩ := ob hm
         refine Mw.p rfl rfl (fun _ => R.ix (α := Int) o121.rd e124 rfl rfl rfl) (Mw.q rfl rfl (fun _ c => R.ld rfl rfl (cl_cell (o121.rd.at_ e124).1 rfl (o121.rd.at_ e124).int c)) (Mw.p rfl rfl (fun _ => R.lt rfl rfl) (Db rfl (bs hm (fun hc125 hm => ?_) fun hc125 hm => ?_))))
         ·exact dps 10 hc125 rfl (Mw.p rfl rfl (fun _ => R.pk hc125 rfl (v := vB true) rfl) (Mw.nil ((ag) ⟨true, W118, rfl, l118, rfl, hm⟩)))
         ·refine Wp hc125 rfl (fun _ => R.mv (v := v19) rfl) (Wp hc125 rfl (fun _ => R.mv (v := vI y50) rfl) ?_)
          obtain ⟨u126, e127, hm⟩ := ob hm
          refine Wp hc125 rfl (fun _ => R.ix (α := Int) o121.rd e127 rfl rfl rfl) (Wq hc125 rfl (fun _ c => R.ld rfl rfl (cl_cell (o121.rd.at_ e127).1 rfl (o121.rd.at_ e127).int c)) (Wp hc125 rfl (fun _ => R.add rfl rfl) (Wp hc125 rfl (fun _ => R.mv (v := v19) rfl) (Wp hc125 rfl (fun _ => R.mv (v := vI u97) rfl) ?_))))
          obtain ⟨u128, e129, hm⟩ := ob hm
          exact Wp hc125 rfl (fun _ => R.ix (α := Int) o121.rd e129 rfl rfl rfl) (Wq hc125 rfl (fun _ c => R.ld rfl rfl (cl_cell (o121.rd.at_ e129).1 rfl (o121.rd.at_ e129).int c)) (Wp hc125 rfl (fun _ => R.lt rfl rfl) (Mw.p rfl rfl (fun _ => R.pk hc125 rfl (v := vB (decide ((w64 (u126 + 1) : Int) < (u128 : Int)))) rfl) (Mw.nil ((ag) ⟨decide ((w64 (u126 + 1) : Int) < (u128 : Int)), W118, rfl, l118, rfl, hm⟩)))))
      ·exact Cw.exit ((ag) ⟨y80, j78, W82, rfl, l82, rfl, o81, hm⟩)
   ·refine Cw.exit ?_
    rw [hK55] at hm
    refine sr (mv v19 rfl (Nv v19 rfl ?_))
    cases hm
    exact Cw.ret (ret1 rfl (Res.mk a57 ⟨v19, rfl, o53.s.sub rfl rfl⟩))

theorem p11 {x0 v0_0_ v0_1_ x1 k0 r} (h0 : Rd W K [v0_0_, v0_1_] x0) (h99 : Gl 0 W K) (hm : Vm.impl_AncFar x0 x1 = some r) : Q1 11 [.agg [v0_0_, v0_1_].toArray, vI x1] W [] fun W' v => ∃ u0, v = u0 ∧ Ow W' k0 [] [u0] r :=
 (c11 (h0.view _) (h99.view _) hm).ad (fk k0) fun _ _ ⟨u0, e, f0⟩ => ⟨u0, e, f0.back (fk_LL _)⟩

theorem c13 {x0 v0_0_ v0_1_ x1 r} (h0 : Rd W0 [0] [v0_0_, v0_1_] x0) (hm : Vm.spec_AncFar x0 x1 = some r) : Q0 13 [.agg [v0_0_, v0_1_].toArray, vI x1] W0 fun Wf v => ∃ u0, v = u0 ∧ OwS Wf LL [] [u0] r := by
 unfold Vm.spec_AncFar at hm
 obtain ⟨w0_0, w0_1, he0, h0_0, h0_1⟩ := Repo.split h0
 simp only [List.cons.injEq, and_true, true_and] at he0
 obtain ⟨rfl, rfl⟩ := he0
 refine CallR.of Tryz.func13 rfl rfl rfl rfl (sr (bo 2 rfl fun g1 W1 l1 b1 => ?_))
 have a2 := l1.o
 refine Nv (.slice none 0 0) rfl (Cw.seq ?_)
 obtain ⟨K5, hK5, hm⟩ := jn_e hm
 refine Cw.join 10 21 [21] (fun l w => ∃ y3 W4, CW.w W4 = w ∧ Le [] W1 W4 ∧ l = [vB y3] ∧ K5 y3 = some r) ?_ ?_
 ·rintro _ _ σ ⟨y3, W4, rfl, l4, rfl, hm⟩
  rw [hK5] at hm
  have a6 := a2.n l4
  refine cn hm (fun hm => ?_) fun hm => ?_
  ·refine sr (Nv (.slice none 0 0) rfl ?_)
   cases hm
   exact Cw.ret (ret1 rfl (Res.mk a6 ⟨.slice none 0 0, rfl, (owsN []).sub rfl rfl⟩))
  ·refine sk (sr (fl (b1.up l4) rfl (Lw.ln x0.Commits (h0_0.ul a6) rfl ?_)))
   obtain ⟨q10, e11, hm⟩ := ob hm
   refine Lw.t rfl (T.mk (α := Int) 3 [] (n := (x0.Commits.length : Int)) rfl rfl e11) ?_
   rintro v12 _ ⟨W12, rfl, l12, o12⟩
   have a13 := a6.n l12
   refine Nv v12 rfl (ssr (Ni rfl (Cw.block ?_)))
   obtain ⟨K19, hK19, hm⟩ := jn_e hm
   refine Cw.loop 26 34 [6] (fun m l w => ∃ y15 y16 W18, CW.w W18 = w ∧ Le [3] W12 W18 ∧ l = [vI y15] ∧ Ow W18 3 [] [v12] y16 ∧ Vm.spec_AncFar_l1 K19 m y15 y16 = some r) _ ⟨0, q10, W12, rfl, Le.refl _ _, rfl, o12, hm⟩ ?_
   rintro (_ | m20) _ _ σ ⟨y15, y16, W18, rfl, l18, rfl, o17, hm⟩
   ·cases hm
   unfold Vm.spec_AncFar_l1 at hm
   have a21 := a13.t l18
   refine ssr (mi rfl (mv v12 rfl (Lw.ln y16 o17.rd rfl (Lw.lt rfl (nl (cn hm (fun hm => ?_) fun hm => ?_))))))
   ·refine sk (Cw.seq (Cw.block (rg (mv v12 rfl (mi rfl ?_)))))
    obtain ⟨u24, e25, hm⟩ := ob hm
    refine Lw.r rfl (R.ix (α := Int) o17.rd e25 rfl rfl rfl) ?_
    obtain ⟨q27, e28, hm⟩ := ob hm
    refine Lw.u (T.stS (K' := []) o17 (rdI _) e28 rfl rfl rfl) ?_
    rintro _ _ ⟨W26, rfl, l26, o26⟩
    exact nl (rg (mi rfl (Lw.add rfl (Ni rfl ((agm) ⟨w64 (y15 + 1), q27, W26, rfl, (l18.j l26).w, rfl, o26, hm⟩)))))
   ·refine Cw.exit ?_
    rw [hK19] at hm
    refine sr (mv v12 rfl (mi rfl ?_))
    obtain ⟨u31, e32, hm⟩ := ob hm
    refine Lw.r rfl (R.ix (α := Int) o17.rd e32 rfl rfl rfl) ?_
    obtain ⟨q34, e35, hm⟩ := ob hm
    refine Lw.u (T.stS (K' := []) o17 (rdI _) e35 rfl rfl rfl) ?_
    rintro _ _ ⟨W33, rfl, l33, o33⟩
    have a36 := a21.t l33
    refine nl (ssr (mi rfl (Ni rfl (Cw.block ?_))))
    obtain ⟨K44, hK44, hm⟩ := jn_e hm
    refine Cw.loop 39 94 [7, 8, 9] (fun m l w => ∃ y38 y41 j39 j40 W43, CW.w W43 = w ∧ Le [3] W33 W43 ∧ l = [vI y38, j39, j40] ∧ Ow W43 3 [] [v12] y41 ∧ Vm.spec_AncFar_l2 x0 K44 m y38 y41 = some r) _ ⟨x1, q34, undef, undef, W33, rfl, Le.refl _ _, rfl, o33, hm⟩ ?_
    rintro (_ | m45) _ _ σ ⟨y38, y41, j39, j40, W43, rfl, l43, rfl, o42, hm⟩
    ·cases hm
    unfold Vm.spec_AncFar_l2 at hm
    have a46 := a36.t l43
    refine ssr (mi rfl (Lw.ge rfl (nl (cn hm (fun hm => ?_) fun hm => ?_))))
    ·refine sk (Cw.seq (Cw.block (sr (Ni rfl (Cw.block ?_)))))
     obtain ⟨K54, hK54, hm⟩ := jn_e hm
     refine Cw.loop 43 94 [8, 9] (fun m l w => ∃ y49 y51 j50 W53, CW.w W53 = w ∧ Le [3] W43 W53 ∧ l = [vI y49, j50] ∧ Ow W53 3 [] [v12] y51 ∧ Vm.spec_AncFar_l3 x0 y38 K54 m y49 y51 = some r) _ ⟨0, y41, j40, W43, rfl, Le.refl _ _, rfl, o42, hm⟩ ?_
     rintro (_ | m55) _ _ σ ⟨y49, y51, j50, W53, rfl, l53, rfl, o52, hm⟩
     ·cases hm
     unfold Vm.spec_AncFar_l3 at hm
     have a56 := a46.t l53
     have b57 := (((((b1.up l4).up l12).up l18).up l33).up l43).up l53
     refine Cw.seq ?_
     obtain ⟨K60, hK60, hm⟩ := jn_e hm
     refine Cw.join 43 58 [58] (fun l w => ∃ y58 W59, CW.w W59 = w ∧ Le [] W53 W59 ∧ l = [vB y58] ∧ K60 y58 = some r) ?_ ?_
     ·rintro _ _ σ ⟨y58, W59, rfl, l59, rfl, hm⟩
      rw [hK60] at hm
      have a61 := a56.n l59
      have o62 := o52.up l59
      refine cn hm (fun hm => ?_) fun hm => ?_
      ·refine sk ?_
       obtain ⟨K69, hK69, hm⟩ := jn_e hm
       refine Cw.join 61 94 [9] (fun l w => ∃ y66 j65 W68, CW.w W68 = w ∧ Le [3] W59 W68 ∧ l = [j65] ∧ Ow W68 3 [] [v12] y66 ∧ K69 y66 = some r) ?_ ?_
       ·rintro _ _ σ ⟨y66, j65, W68, rfl, l68, rfl, o67, hm⟩
        rw [hK69] at hm
        exact rg (mi rfl (Lw.add rfl (Ni rfl ((agm) ⟨w64 (y49 + 1), y66, j65, W68, rfl, ((l53.j l59).j l68).w, rfl, o67, hm⟩))))
       ·refine Cw.block (sr (fl (b57.up l59) rfl (mi rfl ?_)))
        obtain ⟨u72, e73, hm⟩ := ob hm
        refine Lw.r rfl (R.ix (α := Commit) (h0_0.ul a61) e73 rfl rfl rfl) (Lw.fa rfl ?_)
        obtain ⟨v75, c76, r77⟩ := (Commit.at0 ((h0_0.ul a61).at_ e73)).cell rfl
        refine Lw.r rfl (R.ld rfl rfl c76) (mi rfl ?_)
        obtain ⟨u78, e79, hm⟩ := ob hm
        refine Lw.r rfl (R.ix (α := Int) r77 e79 rfl rfl rfl) (Lw.r rfl (R.ld rfl rfl (r77.at_ e79).int) (Ni rfl ?_))
        obtain ⟨K82, hK82, hm⟩ := jn_e hm
        refine Cw.join 70 86 [86] (fun l w => ∃ y80 W81, CW.w W81 = w ∧ Le [] W59 W81 ∧ l = [vB y80] ∧ K82 y80 = some r) ?_ ?_
        ·rintro _ _ σ ⟨y80, W81, rfl, l81, rfl, hm⟩
         rw [hK82] at hm
         have o84 := o62.up l81
         refine cn hm (fun hm => ?_) fun hm => ?_
         ·refine rg (mv v12 rfl (mi rfl (mv v12 rfl (mi rfl ?_))))
          obtain ⟨u87, e88, hm⟩ := ob hm
          refine Lw.r rfl (R.ix (α := Int) o84.rd e88 rfl rfl rfl) (Lw.r rfl (R.ld rfl rfl (o84.rd.at_ e88).int) (Lw.add rfl ?_))
          obtain ⟨u89, e90, hm⟩ := ob hm
          refine Lw.r rfl (R.ix (α := Int) o84.rd e90 rfl rfl rfl) ?_
          obtain ⟨q92, e93, hm⟩ := ob hm
          refine Lw.u (T.stS (K' := []) o84 (rdI _) e93 rfl rfl rfl) ?_
          rintro _ _ ⟨W91, rfl, l91, o91⟩
          exact nl ((ag) ⟨q92, vI u78, W91, rfl, (l81.j l91).w, rfl, o91, hm⟩)
         ·exact sk ((ag) ⟨y51, vI u78, W81, rfl, l81.w, rfl, o84, hm⟩)
        ·refine Cw.draw [] [(0, 0), (1, 0), (2, 0), (3, 1), (4, 0), (5, 0), (6, 0), (7, 0), (8, 0), (9, 1), (10, 0), (11, 0), (12, 0), (13, 0), (14, 1), (15, 0), (16, 0)] mixed (by kernel_rfl) fun W96 l96 => ?_
         have o98 := o62.up l96
         refine Dv v12 rfl (Di rfl ?_)
         obtain ⟨u100, e101, hm⟩ := ob hm
         refine Mw.p rfl rfl (fun _ => R.ix (α := Int) o98.rd e101 rfl rfl rfl) (Mw.q rfl rfl (fun _ c => R.ld rfl rfl (cl_cell (o98.rd.at_ e101).1 rfl (o98.rd.at_ e101).int c)) (Mw.p rfl rfl (fun _ => R.lt rfl rfl) (Db rfl (bs hm (fun hc102 hm => ?_) fun hc102 hm => ?_))))
         ·exact dps 10 hc102 rfl (Mw.p rfl rfl (fun _ => R.pk hc102 rfl (v := vB true) rfl) (Mw.nil ((ag) ⟨true, W96, rfl, l96, rfl, hm⟩)))
         ·refine Wp hc102 rfl (fun _ => R.mv (v := v12) rfl) (Wp hc102 rfl (fun _ => R.mv (v := vI y38) rfl) ?_)
          obtain ⟨u103, e104, hm⟩ := ob hm
          refine Wp hc102 rfl (fun _ => R.ix (α := Int) o98.rd e104 rfl rfl rfl) (Wq hc102 rfl (fun _ c => R.ld rfl rfl (cl_cell (o98.rd.at_ e104).1 rfl (o98.rd.at_ e104).int c)) (Wp hc102 rfl (fun _ => R.add rfl rfl) (Wp hc102 rfl (fun _ => R.mv (v := v12) rfl) (Wp hc102 rfl (fun _ => R.mv (v := vI u78) rfl) ?_))))
          obtain ⟨u105, e106, hm⟩ := ob hm
          exact Wp hc102 rfl (fun _ => R.ix (α := Int) o98.rd e106 rfl rfl rfl) (Wq hc102 rfl (fun _ c => R.ld rfl rfl (cl_cell (o98.rd.at_ e106).1 rfl (o98.rd.at_ e106).int c)) (Wp hc102 rfl (fun _ => R.lt rfl rfl) (Mw.p rfl rfl (fun _ => R.pk hc102 rfl (v := vB (decide ((w64 (u103 + 1) : Int) < (u105 : Int)))) rfl) (Mw.nil ((ag) ⟨decide ((w64 (u103 + 1) : Int) < (u105 : Int)), W96, rfl, l96, rfl, hm⟩)))))
      ·refine Cw.exit ?_
       rw [hK54] at hm
       exact rg (mi rfl (Lw.sub rfl (Ni rfl ((agm) ⟨w64 (y38 - 1), y51, vI y49, j50, W59, rfl, ((l43.j l53).j l59).w, rfl, o62, hm⟩))))
     ·refine rg (mi rfl (fl b57 rfl (mi rfl ?_)))
      obtain ⟨u107, e108, hm⟩ := ob hm
      refine Lw.r rfl (R.ix (α := Commit) (h0_0.ul a56) e108 rfl rfl rfl) (Lw.fa rfl ?_)
      obtain ⟨v110, c111, r112⟩ := (Commit.at0 ((h0_0.ul a56).at_ e108)).cell rfl
      refine Lw.r rfl (R.ld rfl rfl c111) (Lw.ln u107.Parents r112 rfl (Lw.lt rfl (mb rfl (bs hm (fun hc113 hm => ?_) fun hc113 hm => ?_))))
      ·refine wak 5 hc113 (mv v12 rfl (mi rfl ?_))
       obtain ⟨u114, e115, hm⟩ := ob hm
       exact Lw.r rfl (R.ix (α := Int) o52.rd e115 rfl rfl rfl) (Lw.r rfl (R.ld rfl rfl (o52.rd.at_ e115).int) (Lw.ge rfl (Pb hc113 rfl (nl ((ag) ⟨decide ((0 : Int) ≤ (u114 : Int)), W53, rfl, Le.refl _ _, rfl, hm⟩)))))
      ·exact psk 5 hc113 rfl (Pb hc113 rfl (nl ((ag) ⟨false, W53, rfl, Le.refl _ _, rfl, hm⟩)))
    ·refine Cw.exit ?_
     rw [hK44] at hm
     refine sr (mv v12 rfl (Nv v12 rfl ?_))
     cases hm
     exact Cw.ret (ret1 rfl (Res.mk a46 ⟨v12, rfl, o42.s.sub rfl rfl⟩))
 ·refine rg (la b1 (ca hm (fun _ => p38 (Repo.rd (K := [0]) x0.Commits x0.Heads (h0_0.ul a2) (h0_1.ul a2))) fun z118 W120 hm l120 => ?_))
  have a121 := a2.n l120
  refine Lw.r rfl (R.not rfl) (mb rfl (bs hm (fun hc123 hm => ?_) fun hc123 hm => ?_))
  ·exact psk 7 hc123 rfl (Pb hc123 rfl (nl ((ag) ⟨true, W120, rfl, l120, rfl, hm⟩)))
  ·exact wak 7 hc123 (mi rfl (fl (b1.up l120) rfl (Lw.ln x0.Commits (h0_0.ul a121) rfl (Lw.sub rfl (ca hm (fun _ => p39) fun z125 W127 hm l127 => Lw.r rfl (R.not rfl) (Pb hc123 rfl (nl ((ag) ⟨(!z125), W127, rfl, (l120.j l127).w, rfl, hm⟩))))))))

theorem p13 {x0 v0_0_ v0_1_ x1 k0 r} (h0 : Rd W K [v0_0_, v0_1_] x0) (hm : Vm.spec_AncFar x0 x1 = some r) : Q1 13 [.agg [v0_0_, v0_1_].toArray, vI x1] W [] fun W' v => ∃ u0, v = u0 ∧ Ow W' k0 [] [u0] r :=
 (c13 (h0.view _) hm).ad (fk k0) fun _ _ ⟨u0, e, f0⟩ => ⟨u0, e, f0.back (fk_LL _)⟩

theorem c3 {x0 v0_ r} (h0 : Rd W0 [0] [v0_] x0) (h99 : Gl 0 W0 [0]) (hm : Vm.laws_FnAncFar x0 = some r) : Q0 3 [v0_] W0 fun Wf v => v = vB r := by
 unfold Vm.laws_FnAncFar at hm
 refine CallR.of Tryz.func3 rfl rfl rfl rfl (sr (Nb rfl (ssr (mv v0_ rfl (Lw.ln x0 h0 rfl (Lw.gt rfl (nl (cn hm (fun hm => ?_) fun hm => ?_))))))))
 ·exact sr (Nb rfl (.ret (rt hm (Le.refl _ _))))
 ·refine sk (sr (mv v0_ rfl (cr hm (fun _ => p10 (k0 := 2) (k1 := 3) h0) ?_)))
  rintro z2 _ W4 hm l4 ⟨v0_0_4, v0_1_4, rfl, f4_0, f4_1⟩
  have a5 := l4.o
  refine mv (.tuple [.agg [v0_0_4, v0_1_4].toArray, vI z2.2].toArray) rfl (Lw.r rfl (R.ext (vs := [.agg [v0_0_4, v0_1_4].toArray, vI z2.2]) (v := .agg [v0_0_4, v0_1_4].toArray) rfl rfl) (Lw.r rfl (R.ext (vs := [.agg [v0_0_4, v0_1_4].toArray, vI z2.2]) (v := vI z2.2) rfl rfl) (al 4 [.slice none 0 0, .slice none 0 0] fun g6 W6 l6 b6 => ?_)))
  have a7 := a5.n l6
  refine sta b6 (oc_cons (f4_0.up l6).oc (oc_cons (f4_1.up l6).oc oc_nil)) fun W10 l10 b10 => ?_
  have a11 := a7.t l10
  have o12 := (f4_0.up l6).up l10
  have o13 := (f4_1.up l6).up l10
  refine Ni rfl (sr (la b10 (mi rfl (cr hm (fun _ => p11 (K := [0, 2, 3]) (k0 := 5) (x0 := (Vm.Repo.mk z2.1.Commits z2.1.Heads)) ((Repo.rd (K := [2, 3]) z2.1.Commits z2.1.Heads (o12.rd.sub (M := [2, 3]) rfl) (o13.rd.sub (M := [2, 3]) rfl)).sub (M := [0, 2, 3]) rfl) ((h99.ul a11).sub (M := [0, 2, 3]) rfl)) ?_))))
  rintro z15 v0_17 W17 hm l17 ⟨_, rfl, f17_0⟩
  have a18 := a11.n l17
  refine Nv v0_17 rfl (Cw.seq ?_)
  obtain ⟨K24, hK24, hm⟩ := jn_e hm
  refine Cw.join 19 29 [29] (fun l w => ∃ y22 W23, CW.w W23 = w ∧ Le [] W17 W23 ∧ l = [vB y22] ∧ K24 y22 = some r) ?_ ?_
  ·rintro _ _ σ ⟨y22, W23, rfl, l23, rfl, hm⟩
   rw [hK24] at hm
   have a25 := a18.n l23
   have o26 := (o12.up l17).up l23
   have o27 := (o13.up l17).up l23
   have b29 := (b10.up l17).up l23
   refine cn hm (fun hm => ?_) fun hm => ?_
   ·refine sr (mv v0_17 rfl (la b29 (mi rfl (cr hm (fun _ => p13 (K := [2, 3]) (k0 := 6) (x0 := (Vm.Repo.mk z2.1.Commits z2.1.Heads)) (Repo.rd (K := [2, 3]) z2.1.Commits z2.1.Heads (o26.rd.sub (M := [2, 3]) rfl) (o27.rd.sub (M := [2, 3]) rfl))) ?_))))
    rintro z31 v0_33 W33 hm l33 ⟨_, rfl, f33_0⟩
    have a34 := a25.n l33
    refine ca hm (fun _ => p12 (K := [5, 6]) (((f17_0.up l23).up l33).rd.sub (M := [5, 6]) rfl) (f33_0.rd.sub (M := [5, 6]) rfl)) fun z39 W41 hm l41 => ?_
    have a42 := a34.n l41
    exact Nb rfl (.ret (rt hm a42))
   ·refine sk (ssr (Ni rfl (Cw.block ?_)))
    obtain ⟨K52, hK52, hm⟩ := jn_e hm
    refine Cw.loop 35 97 [2, 6, 7] (fun m l w => ∃ y48 y49 j50 W51, CW.w W51 = w ∧ Le [] W23 W51 ∧ l = [vB y48, vI y49, j50] ∧ Vm.laws_FnAncFar_l1 z2 z15 K52 m y48 y49 = some r) _ ⟨false, 0, undef, W23, rfl, Le.refl _ _, rfl, hm⟩ ?_
    rintro (_ | m53) _ _ σ ⟨y48, y49, j50, W51, rfl, l51, rfl, hm⟩
    ·cases hm
    unfold Vm.laws_FnAncFar_l1 at hm
    have a54 := a25.n l51
    have o55 := o26.up l51
    have o57 := (f17_0.up l23).up l51
    have b58 := b29.up l51
    refine ssr (mi rfl (mv v0_17 rfl (Lw.ln z15 o57.rd rfl (Lw.lt rfl (nl (cn hm (fun hm => ?_) fun hm => ?_))))))
    ·refine sk (Cw.seq (Cw.block (Cw.seq ?_)))
     obtain ⟨K62, hK62, hm⟩ := jn_e hm
     refine Cw.join 41 61 [61] (fun l w => ∃ y60 W61, CW.w W61 = w ∧ Le [] W51 W61 ∧ l = [vB y60] ∧ K62 y60 = some r) ?_ ?_
     ·rintro _ _ σ ⟨y60, W61, rfl, l61, rfl, hm⟩
      rw [hK62] at hm
      have a63 := a54.n l61
      refine cn hm (fun hm => ?_) fun hm => ?_
      ·exact sr (Nb rfl (.ret (rt hm a63)))
      ·refine sk (sr (Ni rfl (Cw.block ?_)))
       obtain ⟨K72, hK72, hm⟩ := jn_e hm
       refine Cw.loop 62 97 [2, 7] (fun m l w => ∃ y69 y70 W71, CW.w W71 = w ∧ Le [] W61 W71 ∧ l = [vB y69, vI y70] ∧ Vm.laws_FnAncFar_l2 z2 z15 y49 K72 m y69 y70 = some r) _ ⟨y48, 0, W61, rfl, Le.refl _ _, rfl, hm⟩ ?_
       rintro (_ | m73) _ _ σ ⟨y69, y70, W71, rfl, l71, rfl, hm⟩
       ·cases hm
       unfold Vm.laws_FnAncFar_l2 at hm
       have a74 := a63.n l71
       have o75 := (o55.up l61).up l71
       have o77 := (o57.up l61).up l71
       have b78 := (b58.up l61).up l71
       refine Cw.seq ?_
       obtain ⟨K81, hK81, hm⟩ := jn_e hm
       refine Cw.join 62 77 [77] (fun l w => ∃ y79 W80, CW.w W80 = w ∧ Le [] W71 W80 ∧ l = [vB y79] ∧ K81 y79 = some r) ?_ ?_
       ·rintro _ _ σ ⟨y79, W80, rfl, l80, rfl, hm⟩
        rw [hK81] at hm
        have a82 := a74.n l80
        refine cn hm (fun hm => ?_) fun hm => ?_
        ·refine sk (Cw.seq (Cw.block (Cw.seq (Cw.draw [] [(0, 0), (1, 0), (2, 1), (3, 0), (4, 0), (5, 0), (6, 1), (7, 0), (8, 0), (9, 1), (10, 0), (11, 1), (12, 0), (13, 0), (14, 0), (15, 1), (16, 0), (17, 0)] mixed (by kernel_rfl) fun W88 l88 => ?_))))
         have a89 := a82.n l88
         have o90 := (o75.up l80).up l88
         have o92 := (o77.up l80).up l88
         refine Dv v0_17 rfl (Dfl ((b78.up l80).up l88) rfl rfl rfl (Di rfl ?_))
         obtain ⟨u94, e95, hm⟩ := ob hm
         refine Mw.p rfl rfl (fun _ => R.ix (α := Commit) o90.rd e95 rfl rfl rfl) (Df rfl ?_)
         obtain ⟨v96, c97, r98⟩ := (Commit.at0 (o90.rd.at_ e95)).cell rfl
         refine Mw.q rfl rfl (fun _ c => R.ld rfl rfl (cl_cell (Commit.at0 (o90.rd.at_ e95)).1 rfl c97 c)) (Di rfl ?_)
         obtain ⟨u99, e100, hm⟩ := ob hm
         refine Mw.p rfl rfl (fun _ => R.ix (α := Int) r98 e100 rfl rfl rfl) (Mw.q rfl rfl (fun _ c => R.ld rfl rfl (cl_cell (r98.at_ e100).1 rfl (r98.at_ e100).int c)) ?_)
         obtain ⟨u101, e102, hm⟩ := ob hm
         refine Mw.p rfl rfl (fun _ => R.ix (α := Int) o92.rd e102 rfl rfl rfl) (Mw.q rfl rfl (fun _ c => R.ld rfl rfl (cl_cell (o92.rd.at_ e102).1 rfl (o92.rd.at_ e102).int c)) (Dv v0_17 rfl (Di rfl ?_)))
         obtain ⟨u103, e104, hm⟩ := ob hm
         refine Mw.p rfl rfl (fun _ => R.ix (α := Int) o92.rd e104 rfl rfl rfl) (Mw.q rfl rfl (fun _ c => R.ld rfl rfl (cl_cell (o92.rd.at_ e104).1 rfl (o92.rd.at_ e104).int c)) (Mw.p rfl rfl (fun _ => R.add rfl rfl) (Mw.p rfl rfl (fun _ => R.gt rfl rfl) (Mw.nil (cn hm (fun hm => ?_) fun hm => ?_)))))
         ·exact sr (Nb rfl (.ret (rt hm a89)))
         ·exact sk (rg (mi rfl (Lw.add rfl (Ni rfl ((agm) ⟨y69, w64 (y70 + 1), W88, rfl, ((l71.j l80).j l88).w, rfl, hm⟩)))))
        ·refine Cw.exit ?_
         rw [hK72] at hm
         exact rg (mi rfl (Lw.add rfl (Ni rfl ((agm) ⟨y69, w64 (y49 + 1), vI y70, W80, rfl, (((l51.j l61).j l71).j l80).w, rfl, hm⟩))))
       ·refine rg (mi rfl (fl b78 rfl (mi rfl ?_)))
        obtain ⟨u106, e107, hm⟩ := ob hm
        refine Lw.r rfl (R.ix (α := Commit) o75.rd e107 rfl rfl rfl) (Lw.fa rfl ?_)
        obtain ⟨v108, c109, r110⟩ := (Commit.at0 (o75.rd.at_ e107)).cell rfl
        refine Lw.r rfl (R.ld rfl rfl c109) (Lw.ln u106.Parents r110 rfl (Lw.lt rfl (mb rfl (bs hm (fun hc111 hm => ?_) fun hc111 hm => ?_))))
        ·refine wak 5 hc111 (mv v0_17 rfl (mi rfl ?_))
         obtain ⟨u112, e113, hm⟩ := ob hm
         exact Lw.r rfl (R.ix (α := Int) o77.rd e113 rfl rfl rfl) (Lw.r rfl (R.ld rfl rfl (o77.rd.at_ e113).int) (Lw.ge rfl (Pb hc111 rfl (nl ((ag) ⟨decide ((0 : Int) ≤ (u112 : Int)), W71, rfl, Le.refl _ _, rfl, hm⟩)))))
        ·exact psk 5 hc111 rfl (Pb hc111 rfl (nl ((ag) ⟨false, W71, rfl, Le.refl _ _, rfl, hm⟩)))
     ·refine Cw.draw [] [(0, 0), (1, 0), (2, 0), (3, 1), (4, 0), (5, 1), (6, 0), (7, 0), (8, 2), (9, 0), (10, 0), (11, 0), (12, 0), (13, 0), (14, 1), (15, 0), (16, 0), (17, 0), (18, 0), (19, 0), (20, 0)] mixed (by kernel_rfl) fun W114 l114 => ?_
      have a115 := a54.n l114
      have o118 := o57.up l114
      refine Dv v0_17 rfl (Di rfl ?_)
      obtain ⟨u120, e121, hm⟩ := ob hm
      refine Mw.p rfl rfl (fun _ => R.ix (α := Int) o118.rd e121 rfl rfl rfl) (Mw.q rfl rfl (fun _ c => R.ld rfl rfl (cl_cell (o118.rd.at_ e121).1 rfl (o118.rd.at_ e121).int c)) (Mw.p rfl rfl (fun _ => R.ge rfl rfl) (Mw.q rfl rfl (fun _ c => R.lda (cs := [v0_0_4, v0_1_4]) ((b58.up l114).clcs rfl c) rfl rfl) (Di rfl (Di rfl (Dc hm (Le.refl _ _) (fun _ => p14 (K := [0, 2, 3]) (x0 := (Vm.Repo.mk z2.1.Commits z2.1.Heads)) ((Repo.rd (K := [2, 3]) z2.1.Commits z2.1.Heads ((o55.up l114).rd.sub (M := [2, 3]) rfl) (((o27.up l51).up l114).rd.sub (M := [2, 3]) rfl)).sub (M := [0, 2, 3]) rfl) ((h99.ul a115).sub (M := [0, 2, 3]) rfl)) rfl ?_))))))
      rintro z123 _ W125 hm l125 rfl d125
      refine Mw.p rfl rfl (fun _ => R.bne rfl rfl) (Db rfl (bs hm (fun hc131 hm => ?_) fun hc131 hm => ?_))
      ·exact dps 9 hc131 rfl (Mw.p rfl rfl (fun _ => R.pk hc131 rfl (v := vB true) rfl) (Mw.nil ((ag) ⟨true, W125, rfl, (l114.j l125).w, rfl, hm⟩)))
      ·refine Wp hc131 rfl (fun _ => R.mv (v := v0_17) rfl) (Wp hc131 rfl (fun _ => R.mv (v := vI y49) rfl) ?_)
       obtain ⟨u132, e133, hm⟩ := ob hm
       exact Wp hc131 rfl (fun _ => R.ix (α := Int) o118.rd e133 rfl rfl rfl) (Wq hc131 rfl (fun _ c => R.ld rfl rfl (cl_cell (o118.rd.at_ e133).1 rfl (o118.rd.at_ e133).int c)) (Wp hc131 rfl (fun _ => R.eq rfl rfl) (Wp hc131 rfl (fun _ => R.mv (v := vI y49) rfl) (Wp hc131 rfl (fun _ => R.mv (v := vI z2.2) rfl) (Wp hc131 rfl (fun _ => R.eq rfl rfl) (Wp hc131 rfl (fun _ => R.bne rfl rfl) (Mw.p rfl rfl (fun _ => R.pk hc131 rfl (v := vB (((u132 : Int) == (0 : Int)) != ((y49 : Int) == (z2.2 : Int)))) rfl) (Mw.nil ((ag) ⟨(((u132 : Int) == (0 : Int)) != ((y49 : Int) == (z2.2 : Int))), W125, rfl, (l114.j l125).w, rfl, hm⟩)))))))))
    ·refine Cw.exit ?_
     rw [hK52] at hm
     exact sr (mv v0_17 rfl (Lw.ln z15 o57.rd rfl (fl b58 rfl (Lw.ln z2.1.Commits o55.rd rfl (Lw.eq rfl (Nb rfl (.ret (rt hm a54))))))))
  ·refine rg (mv v0_17 rfl (la (b10.up l17) (mi rfl (cr hm (fun _ => p13 (K := [2, 3]) (k0 := 7) (x0 := (Vm.Repo.mk z2.1.Commits z2.1.Heads)) (Repo.rd (K := [2, 3]) z2.1.Commits z2.1.Heads ((o12.up l17).rd.sub (M := [2, 3]) rfl) ((o13.up l17).rd.sub (M := [2, 3]) rfl))) ?_))))
   rintro z134 v0_136 W136 hm l136 ⟨_, rfl, f136_0⟩
   refine ca hm (fun _ => p12 (K := [5, 7]) ((f17_0.up l136).rd.sub (M := [5, 7]) rfl) (f136_0.rd.sub (M := [5, 7]) rfl)) fun z142 W144 hm l144 => Lw.r rfl (R.not rfl) (mb rfl (bs hm (fun hc151 hm => ?_) fun hc151 hm => ?_))
   ·exact psk 3 hc151 rfl (Pb hc151 rfl (nl ((ag) ⟨true, W144, rfl, (l136.j l144).w, rfl, hm⟩)))
   ·exact wak 3 hc151 (mv v0_17 rfl (Lw.ln z15 ((f17_0.up l136).up l144).rd rfl (Lw.eq rfl (Pb hc151 rfl (nl ((ag) ⟨(((z15.length : Int) : Int) == (0 : Int)), W144, rfl, (l136.j l144).w, rfl, hm⟩))))))

theorem p3 {x0 v0_ r} (h0 : Rd W K [v0_] x0) (h99 : Gl 0 W K) (hm : Vm.laws_FnAncFar x0 = some r) : Q1 3 [v0_] W [] fun W' v => v = vB r :=
 (c3 (h0.view _) (h99.view _) hm).ad (fk 0) fun _ _ e => e

end Go.Sx
