/- Walks: each function answers as its model, printed by a program of ours. Conditions: the arguments read as they are given. -/
import Derived.Test.YtkfeiopifiejgaaDoorXTs
import Derived.Test.YtkfeiopifiejgaaDoorXMd
import Derived.Test.YtkfeiopifiejgaaDoorXW0
import Derived.Test.YtkfeiopifiejgaaDoorXW1
import Derived.Test.YtkfeiopifiejgaaDoorXW2
import Derived.Test.YtkfeiopifiejgaaDoorXW3
namespace Go.Sx
open Go Go.Proofs Go.Vm Rp
set_option linter.unusedVariables false
set_option linter.unusedSimpArgs false

variable {W W0 : CW} {K : List Nat}
theorem c65 {x0 v0_0_ v0_1_ x1 v1_ r} (h0 : Rd W0 [0] [v0_0_, v0_1_] x0) (h1 : Rd W0 [0] [v1_] x1) (hm : Vm.spec_l12Any x0 x1 = some r) : Q0 65 [.agg [v0_0_, v0_1_].toArray, v1_] W0 fun Wf v => v = vB r := by
 unfold Vm.spec_l12Any at hm
 obtain ⟨w0_0, w0_1, he0, h0_0, h0_1⟩ := Repo.split h0
 simp only [List.cons.injEq, and_true, true_and] at he0
 obtain ⟨rfl, rfl⟩ := he0
 refine CallR.of Tryd.func65 rfl rfl rfl rfl (sr (bo 2 rfl fun g1 W1 l1 b1 => ?_))
 have a2 := l1.o
 refine Nb rfl (ssr (Ni rfl (Cw.block ?_)))
 obtain ⟨K6, hK6, hm⟩ := jn_e hm
 refine Cw.loop 6 21 [4, 5] (fun m l w => ∃ y3 y4 W5, CW.w W5 = w ∧ Le [] W1 W5 ∧ l = [vB y3, vI y4] ∧ Vm.spec_l12Any_l1 x0 x1 K6 m y3 y4 = some r) _ ⟨false, 0, W1, rfl, Le.refl _ _, rfl, hm⟩ ?_
 rintro (_ | m7) _ _ σ ⟨y3, y4, W5, rfl, l5, rfl, hm⟩
 ·cases hm
 unfold Vm.spec_l12Any_l1 at hm
 have a8 := a2.n l5
 refine ssr (mi rfl (mv v1_ rfl (Lw.ln x1 (h1.ul a8) rfl (Lw.lt rfl (nl (cn hm (fun hm => ?_) fun hm => ?_))))))
 ·refine sk (Cw.seq (Cw.block (Cw.seq (Cw.draw [] [(0, 0), (1, 0), (2, 0), (3, 1), (4, 0), (5, 1), (6, 0), (7, 0), (8, 2), (9, 0)] mixed (by kernel_rfl) fun W12 l12 => ?_))))
  have a13 := a8.n l12
  refine Dv v1_ rfl (Di rfl ?_)
  obtain ⟨u15, e16, hm⟩ := ob hm
  refine Mw.p rfl rfl (fun _ => R.ix (α := Int) (h1.ul a13) e16 rfl rfl rfl) (Mw.q rfl rfl (fun _ c => R.ld rfl rfl (cl_cell ((h1.ul a13).at_ e16).1 rfl ((h1.ul a13).at_ e16).int c)) (Dfl ((b1.up l5).up l12) rfl rfl rfl (Mw.p rfl rfl (fun _ => lenR (xs := x0.Commits) (h0_0.ul a13) rfl) (Mw.p rfl rfl (fun _ => R.sub rfl rfl) ?_))))
  obtain ⟨z19, e20, hm⟩ := ob hm
  refine Mw.t rfl rfl (T.call rfl (p63   e20)) ?_
  rintro _ _ ⟨W21, rfl, l21, rfl⟩
  have a22 := a13.n l21
  refine m0 l21 fun d21 => Mw.p rfl rfl (fun _ => R.not rfl) (Mw.nil (cn hm (fun hm => ?_) fun hm => ?_))
  ·exact sr (Nb rfl (.ret (rt hm a22)))
  ·exact sk (rg (mi rfl (Lw.add rfl (Ni rfl ((agm) ⟨y3, w64 (y4 + 1), W21, rfl, ((l5.j l12).j l21).w, rfl, hm⟩)))))
 ·refine Cw.exit ?_
  rw [hK6] at hm
  exact sr (mv v1_ rfl (Lw.ln x1 (h1.ul a8) rfl (Lw.le rfl (Nb rfl (.ret (rt hm a8))))))

theorem p65 {x0 v0_0_ v0_1_ x1 v1_ r} (h0 : Rd W K [v0_0_, v0_1_] x0) (h1 : Rd W K [v1_] x1) (hm : Vm.spec_l12Any x0 x1 = some r) : Q1 65 [.agg [v0_0_, v0_1_].toArray, v1_] W [] fun W' v => v = vB r :=
 (c65 (h0.view _) (h1.view _) hm).ad (fk 0) fun _ _ e => e

theorem c20 {x0 v0_0_ v0_1_ x1 v1_ x2 v2_ x3 r} (h0 : Rd W0 [0] [v0_0_, v0_1_] x0) (h1 : Rd W0 [0] [v1_] x1) (h2 : Rd W0 [0] [v2_] x2) (hm : Vm.spec_SendTake x0 x1 x2 x3 = some r) : Q0 20 [.agg [v0_0_, v0_1_].toArray, v1_, v2_, vS x3] W0 fun Wf v => ∃ u0_0 u0_1, v = .tuple [.agg [u0_0, u0_1].toArray, vB r.2].toArray ∧ Rd Wf [0] [u0_0] r.1.Commits ∧ Rd Wf [0] [u0_1] r.1.Heads := by
 unfold Vm.spec_SendTake at hm
 obtain ⟨w0_0, w0_1, he0, h0_0, h0_1⟩ := Repo.split h0
 simp only [List.cons.injEq, and_true, true_and] at he0
 obtain ⟨rfl, rfl⟩ := he0
 refine CallR.of Tryd.func20 rfl rfl rfl rfl (sr (bo 2 rfl fun g1 W1 l1 b1 => ?_))
 have a2 := l1.o
 refine al 3 [.slice none 0 0, .slice none 0 0] fun g3 W3 l3 b3 => ?_
 have a4 := a2.n l3
 refine Nb rfl (ssr (la (b1.up l3) (ca hm (fun _ => p42 (Repo.rd (K := [0]) x0.Commits x0.Heads (h0_0.ul a4) (h0_1.ul a4))) fun z8 W10 hm l10 => ?_)))
 have a11 := a4.n l10
 have b12 := (b1.up l3).up l10
 refine Lw.r rfl (R.not rfl) (nl (cn hm (fun hm => ?_) fun hm => ?_))
 ·refine sr (Lw.r rfl (R.bd (zs := [.slice none 0 0, .slice none 0 0]) (cs := [.slice none 0 0, .slice none 0 0]) [] rfl rfl rfl bp_nil) (sta (b3.up l10) (oc_cons rfl (oc_cons rfl oc_nil)) fun W15 l15 b15 => ?_))
  have a16 := a11.t l15
  refine Nb rfl ?_
  cases hm
  exact Cw.ret (retA2 rfl b15 rfl (Res.mk a16 ⟨.slice none 0 0, .slice none 0 0, rfl, (rdN (K := [0])), (rdN (K := [0]))⟩))
 ·refine sk (sr (la b12 (cr hm (fun _ => p46 (k0 := 4) (k1 := 5) (Repo.rd (K := [0]) x0.Commits x0.Heads (h0_0.ul a11) (h0_1.ul a11))) ?_)))
  rintro z20 _ W22 hm l22 ⟨v0_0_22, v0_1_22, rfl, f22_0, f22_1⟩
  have a23 := a11.n l22
  refine al 6 [.slice none 0 0, .slice none 0 0] fun g26 W26 l26 b26 => ?_
  have a27 := a23.n l26
  refine sta b26 (oc_cons (f22_0.up l26).oc (oc_cons (f22_1.up l26).oc oc_nil)) fun W32 l32 b32 => ?_
  have a33 := a27.t l32
  have b36 := ((b12.up l22).up l26).up l32
  refine nl (sr (fl b36 rfl (Lw.ln x0.Commits (h0_0.ul a33) rfl (Ni rfl (sr (Ni rfl ?_))))))
  obtain ⟨K41, hK41, hm⟩ := jn_e hm
  refine Cw.join 26 31 [12] (fun l w => ∃ y39 W40, CW.w W40 = w ∧ Le [] W32 W40 ∧ l = [vI y39] ∧ K41 y39 = some r) ?_ ?_
  ·rintro _ _ σ ⟨y39, W40, rfl, l40, rfl, hm⟩
   rw [hK41] at hm
   have a42 := a33.n l40
   refine ssr (Ni rfl (Cw.block ?_))
   obtain ⟨K69, hK69, hm⟩ := jn_e hm
   refine Cw.loop 32 98 [9, 12, 13, 14, 15, 16] (fun m l w => ∃ y48 y49 y50 y54 y57 y61 y64 j51 j52 j53 v55 v58 v62 v65 W68, CW.w W68 = w ∧ Le [4, 6, 9, 10, 11] W40 W68 ∧ l = [vB y48, vI y49, vI y50, j51, j52, j53] ∧ Ow W68 4 [] [v55] y54 ∧ Ow W68 5 [] [v58] y57 ∧ Bx W68 6 g26 [v55, v58] ∧ Ow W68 7 [] [v62] y61 ∧ Ow W68 8 [] [v65] y64 ∧ Bx W68 3 g3 [v62, v65] ∧ Vm.spec_SendTake_l1 x0 x1 x2 K69 m y48 y49 y50 y54 y57 y61 y64 = some r) _ ⟨false, y39, 0, z20.Commits, z20.Heads, ([] : List Commit), ([] : List Head), undef, undef, undef, v0_0_22, v0_1_22, .slice none 0 0, .slice none 0 0, W40, rfl, Le.refl _ _, rfl, (((f22_0.up l26).up l32).up l40), (((f22_1.up l26).up l32).up l40), (b32.up l40), owN 7 [], owN 8 [], (((((b3.up l10).up l22).up l26).up l32).up l40), hm⟩ ?_
   rintro (_ | m70) _ _ σ ⟨y48, y49, y50, y54, y57, y61, y64, j51, j52, j53, v55, v58, v62, v65, W68, rfl, l68, rfl, o56, o59, b60, o63, o66, b67, hm⟩
   ·cases hm
   unfold Vm.spec_SendTake_l1 at hm
   have a71 := a42.t l68
   have b72 := (b36.up l40).up l68
   refine ssr (mi rfl (mv v2_ rfl (Lw.ln x2 (h2.ul a71) rfl (Lw.lt rfl (nl (cn hm (fun hm => ?_) fun hm => ?_))))))
   ·refine sk (Cw.seq (Cw.block (sr (mv v2_ rfl (mi rfl ?_)))))
    obtain ⟨u75, e76, hm⟩ := ob hm
    refine Lw.r rfl (R.ix (α := Commit) (h2.ul a71) e76 rfl rfl rfl) ?_
    obtain ⟨x77, c78, _, r79⟩ := ((h2.ul a71).at_ e76).cells
    obtain ⟨v80, v82, rfl, r81, r83⟩ := Commit.split r79
    refine Lw.r rfl (R.lda c78 rfl rfl) (cr hm (fun _ => p62 (k0 := 9) (k1 := 10) (Commit.rd (K := [0]) u75.Parents u75.Who u75.Tree r81 r83)) ?_)
    rintro z84 _ W86 hm l86 ⟨v0_0_86, v0_2_86, rfl, f86_0, f86_1⟩
    have a87 := a71.n l86
    refine al 11 [.slice none 0 0, vS ([] : Str), .slice none 0 0] fun g95 W95 l95 b95 => ?_
    have a96 := a87.n l95
    refine sta b95 (oc_cons (f86_0.up l95).oc (oc_cons rfl (oc_cons (f86_1.up l95).oc oc_nil))) fun W106 l106 b106 => ?_
    have a107 := a96.t l106
    refine nl (ssr (Ni rfl (Cw.block ?_)))
    obtain ⟨K130, hK130, hm⟩ := jn_e hm
    refine Cw.loop 43 88 [9, 15, 16] (fun m l w => ∃ y117 y118 y120 y123 y127 j119 v121 v124 W129, CW.w W129 = w ∧ Le [9] W106 W129 ∧ l = [vB y117, vI y118, j119] ∧ Ow W129 7 [] [v121] y120 ∧ Ow W129 8 [] [v124] y123 ∧ Bx W129 3 g3 [v121, v124] ∧ Ow W129 9 [] [v0_0_86] y127 ∧ Vm.spec_SendTake_l2 x0 x1 y50 K130 m y117 y118 y120 y123 y127 = some r) _ ⟨y48, 0, y61, y64, z84.Parents, j53, v62, v65, W106, rfl, Le.refl _ _, rfl, (((o63.up l86).up l95).up l106), (((o66.up l86).up l95).up l106), (((b67.up l86).up l95).up l106), ((f86_0.up l95).up l106), hm⟩ ?_
    rintro (_ | m131) _ _ σ ⟨y117, y118, y120, y123, y127, j119, v121, v124, W129, rfl, l129, rfl, o122, o125, b126, o128, hm⟩
    ·cases hm
    unfold Vm.spec_SendTake_l2 at hm
    have a132 := a107.t l129
    have b137 := (((b60.up l86).up l95).up l106).up l129
    have b138 := b106.up l129
    refine ssr (mi rfl (fl b138 rfl (Lw.ln y127 o128.rd rfl (Lw.lt rfl (nl (cn hm (fun hm => ?_) fun hm => ?_))))))
    ·refine sk ?_
     obtain ⟨K152, hK152, hm⟩ := jn_e hm
     refine Cw.join 50 88 [9, 16] (fun l w => ∃ y140 y142 y145 y149 j141 v143 v146 W151, CW.w W151 = w ∧ Le [9] W129 W151 ∧ l = [vB y140, j141] ∧ Ow W151 7 [] [v143] y142 ∧ Ow W151 8 [] [v146] y145 ∧ Bx W151 3 g3 [v143, v146] ∧ Ow W151 9 [] [v0_0_86] y149 ∧ K152 y140 y142 y145 y149 = some r) ?_ ?_
     ·rintro _ _ σ ⟨y140, y142, y145, y149, j141, v143, v146, W151, rfl, l151, rfl, o144, o147, b148, o150, hm⟩
      rw [hK152] at hm
      exact rg (mi rfl (Lw.add rfl (Ni rfl ((agm) ⟨y140, w64 (y118 + 1), y142, y145, y149, j141, v143, v146, W151, rfl, (l129.j l151).w, rfl, o144, o147, b148, o150, hm⟩))))
     ·refine Cw.block (sr (fl b138 rfl (mi rfl ?_)))
      obtain ⟨u160, e161, hm⟩ := ob hm
      refine Lw.r rfl (R.ix (α := Int) o128.rd e161 rfl rfl rfl) (Lw.r rfl (R.ld rfl rfl (o128.rd.at_ e161).int) (Ni rfl (Cw.block (sr (mi rfl (mi rfl (Lw.sub rfl (ca hm (fun _ => p63) fun z162 W164 hm l164 => ?_))))))))
      have a165 := a132.n l164
      have o170 := o128.up l164
      refine Nb rfl (cn hm (fun hm => ?_) fun hm => ?_)
      ·refine rg (fl (b138.up l164) rfl (mi rfl (mi rfl (mi rfl (Lw.add rfl ?_)))))
       obtain ⟨u177, e178, hm⟩ := ob hm
       refine Lw.r rfl (R.ix (α := Int) o170.rd e178 rfl rfl rfl) ?_
       obtain ⟨q180, e181, hm⟩ := ob hm
       refine Lw.u (T.stS (K' := []) o170 (rdI _) e181 rfl rfl rfl) ?_
       rintro _ _ ⟨W179, rfl, l179, o179⟩
       exact nl ((ag) ⟨y117, y120, y123, q180, vI u160, v121, v124, W179, rfl, (l164.j l179).w, rfl, ((o122.up l164).up l179), ((o125.up l164).up l179), ((b126.up l164).up l179), o179, hm⟩)
      ·obtain ⟨K194, hK194, hm⟩ := jn_e hm
       refine Cw.join 69 79 [69] (fun l w => ∃ y192 W193, CW.w W193 = w ∧ Le [] W164 W193 ∧ l = [vB y192] ∧ K194 y192 = some r) ?_ ?_
       ·rintro _ _ σ ⟨y192, W193, rfl, l193, rfl, hm⟩
        rw [hK194] at hm
        have a195 := a165.n l193
        have b203 := (b126.up l164).up l193
        refine cn hm (fun hm => ?_) fun hm => ?_
        ·refine Cw.draw [] [(0, 0), (1, 1), (2, 0), (3, 0), (4, 0), (5, 0), (6, 0), (7, 1), (8, 0), (9, 3)] mixed (by kernel_rfl) fun W207 l207 => ?_
         have a208 := a195.n l207
         have o213 := (o170.up l193).up l207
         refine Dfl (((b138.up l164).up l193).up l207) rfl rfl rfl (Di rfl (Dv v1_ rfl (Di rfl (Mw.p rfl rfl (fun _ => R.sub rfl rfl) ?_))))
         obtain ⟨u219, e220, hm⟩ := ob hm
         refine Mw.p rfl rfl (fun _ => R.ix (α := Int) (h1.ul a208) e220 rfl rfl rfl) (Mw.q rfl rfl (fun _ c => R.ld rfl rfl (cl_cell ((h1.ul a208).at_ e220).1 rfl ((h1.ul a208).at_ e220).int c)) ?_)
         obtain ⟨u222, e223, hm⟩ := ob hm
         refine Mw.p rfl rfl (fun _ => R.ix (α := Int) o213.rd e223 rfl rfl rfl) ?_
         obtain ⟨q225, e226, hm⟩ := ob hm
         refine Mw.lu rfl (T.stS (K' := []) o213 (rdI _) e226 rfl rfl rfl) ?_
         rintro _ _ ⟨W224, rfl, l224, o224⟩
         exact Mw.nil ((ag) ⟨y117, y120, y123, q225, vI u160, v121, v124, W224, rfl, (((l164.j l193).j l207).j l224).w, rfl, ((((o122.up l164).up l193).up l207).up l224), ((((o125.up l164).up l193).up l207).up l224), ((b203.up l207).up l224), o224, hm⟩)
        ·refine sr (la ((((((b72.up l86).up l95).up l106).up l129).up l164).up l193) (cr hm (fun _ => p46 (k0 := 12) (k1 := 13) (Repo.rd (K := [0]) x0.Commits x0.Heads (h0_0.ul a195) (h0_1.ul a195))) ?_))
         rintro z239 _ W241 hm l241 ⟨v0_0_241, v0_1_241, rfl, f241_0, f241_1⟩
         have a242 := a195.n l241
         refine sta (b203.up l241) (oc_cons f241_0.oc (oc_cons f241_1.oc oc_nil)) fun W253 l253 b253 => ?_
         have a254 := a242.t l253
         refine Nb rfl ?_
         obtain ⟨W266, ew266, l266, dj266⟩ := dyeE _ 12
         have s267 : Rd (α := List Vm.Commit) W266 [0] [v0_0_241] z239.Commits := by rw [dj266]; exact ((f241_0.up l253).rd.dye 12).sub (M := [0]) rfl
         have a268 := a254.t l266
         obtain ⟨W280, ew280, l280, dj280⟩ := dyeE _ 13
         have s281 : Rd (α := List Vm.Head) W280 [0] [v0_1_241] z239.Heads := by rw [dj280]; exact (((f241_1.up l253).up l266).rd.dye 13).sub (M := [0]) rfl
         have a282 := l280.s
         cases hm
         rw [← ew280.trans (ew266)]
         exact Cw.ret (retA2 rfl ((b253.up l266).up l280) rfl (Res.mk (a268.trans a282) ⟨v0_0_241, v0_1_241, rfl, (s267.ul a282), s281⟩))
       ·refine rg (mi rfl (Lw.sub rfl (mv v1_ rfl (Lw.ln x1 (h1.ul a165) rfl (Lw.sub rfl (ca hm (fun _ => p63) fun z295 W297 hm l297 => mb rfl (bs hm (fun hc309 hm => ?_) fun hc309 hm => ?_)))))))
        ·exact wak 2 hc309 (mi rfl (Lw.lt rfl (Pb hc309 rfl (Nb rfl ((ag) ⟨decide ((u160 : Int) < (0 : Int)), W297, rfl, l297, rfl, hm⟩)))))
        ·exact psk 2 hc309 rfl (Pb hc309 rfl (Nb rfl ((ag) ⟨false, W297, rfl, l297, rfl, hm⟩)))
    ·refine Cw.exit ?_
     rw [hK130] at hm
     refine sr (fl b137 rfl (la b138 (Lw.t rfl (T.bs 14 [.agg [v0_0_86, vS z84.Who, v0_2_86].toArray] (cs := [v0_0_86, vS z84.Who, v0_2_86]) rfl rfl (bsA rfl)) ?_)))
     rintro _ _ ⟨g310, W310, rfl, rfl, l310, b310⟩
     obtain ⟨q322, e323, hm⟩ := ob hm
     refine Lw.t rfl (T.app1 (α := Commit) (J := [9, 10]) (K' := []) (((((o56.up l86).up l95).up l106).up l129).up l310) b310 (Commit.own y127 z84.Who z84.Tree (o128.up l310).s ((((f86_1.up l95).up l106).up l129).up l310).s) rfl rfl e323) ?_
     rintro v324 _ ⟨W324, rfl, l324, o324⟩
     refine Lw.fa rfl (Lw.u (T.st (j := 0) (v := v324) ((b137.up l310).up l324) rfl rfl o324.oc rfl rfl) ?_)
     rintro _ _ ⟨W334, rfl, l334, b334⟩
     exact nl (rg (fl b334 rfl (Lw.ln q322 (o324.up l334).rd rfl (Lw.sub rfl (Ni rfl (rg (mi rfl (Lw.add rfl (Ni rfl ((agm) ⟨y117, w64 ((q322.length : Int) - 1), w64 (y50 + 1), q322, y57, y120, y123, ptr (bx g95), vI y118, j119, v324, v58, v121, v124, W334, rfl, (((((((l68.j l86).j l95).j l106).j l129).j l310).j l324).j l334).w, rfl, (o324.up l334), (((((((o59.up l86).up l95).up l106).up l129).up l310).up l324).up l334), b334, (((o122.up l310).up l324).up l334), (((o125.up l310).up l324).up l334), (((b126.up l310).up l324).up l334), hm⟩))))))))))
   ·refine Cw.exit ?_
    rw [hK69] at hm
    refine sr (la b60 (ms rfl (mi rfl (cr hm (fun _ => p64 (K := [4, 5]) (x0 := (Vm.Repo.mk y54 y57)) (Repo.rd (K := [4, 5]) y54 y57 (o56.rd.sub (M := [4, 5]) rfl) (o59.rd.sub (M := [4, 5]) rfl))) ?_))))
    rintro z344 _ W346 hm l346 ⟨v0_0_346, v0_1_346, rfl, f346_0, f346_1⟩
    have s347 := f346_0.sub (M := [0, 4, 5]) rfl
    have s348 := f346_1.sub (M := [0, 4, 5]) rfl
    have a349 := a71.n l346
    refine sta (b60.up l346) (oc_cons s347.oc (oc_cons s348.oc oc_nil)) fun W357 l357 b357 => ?_
    have a358 := a349.t l357
    have b363 := (b72.up l346).up l357
    refine nl (Cw.seq ?_)
    obtain ⟨K367, hK367, hm⟩ := jn_e hm
    refine Cw.join 103 111 [111] (fun l w => ∃ y365 W366, CW.w W366 = w ∧ Le [] W357 W366 ∧ l = [vB y365] ∧ K367 y365 = some r) ?_ ?_
    ·rintro _ _ σ ⟨y365, W366, rfl, l366, rfl, hm⟩
     rw [hK367] at hm
     have a368 := a358.n l366
     have b374 := ((b67.up l346).up l357).up l366
     refine cn hm (fun hm => ?_) fun hm => ?_
     ·refine sr (la (b363.up l366) (cr hm (fun _ => p46 (k0 := 15) (k1 := 16) (Repo.rd (K := [0]) x0.Commits x0.Heads (h0_0.ul a368) (h0_1.ul a368))) ?_))
      rintro z379 _ W381 hm l381 ⟨v0_0_381, v0_1_381, rfl, f381_0, f381_1⟩
      have a382 := a368.n l381
      refine sta (b374.up l381) (oc_cons f381_0.oc (oc_cons f381_1.oc oc_nil)) fun W390 l390 b390 => ?_
      have a391 := a382.t l390
      refine Nb rfl ?_
      obtain ⟨W400, ew400, l400, dj400⟩ := dyeE _ 15
      have s401 : Rd (α := List Vm.Commit) W400 [0] [v0_0_381] z379.Commits := by rw [dj400]; exact ((f381_0.up l390).rd.dye 15).sub (M := [0]) rfl
      have a402 := a391.t l400
      obtain ⟨W411, ew411, l411, dj411⟩ := dyeE _ 16
      have s412 : Rd (α := List Vm.Head) W411 [0] [v0_1_381] z379.Heads := by rw [dj411]; exact (((f381_1.up l390).up l400).rd.dye 16).sub (M := [0]) rfl
      have a413 := l411.s
      cases hm
      rw [← ew411.trans (ew400)]
      exact Cw.ret (retA2 rfl ((b390.up l400).up l411) rfl (Res.mk (a402.trans a413) ⟨v0_0_381, v0_1_381, rfl, (s401.ul a413), s412⟩))
     ·refine sk (sr (la (b357.up l366) (sta b374 (oc_cons s347.oc (oc_cons s348.oc oc_nil)) fun W422 l422 b422 => ?_)))
      have a423 := a368.t l422
      refine Nb rfl ?_
      have s430 := s347.up ((l357.sub (M := [3, 6]) rfl).trans ((l366.sub (M := [3, 6]) rfl).trans (l422.sub (M := [3, 6]) rfl))) rfl
      have s431 := s348.up ((l357.sub (M := [3, 6]) rfl).trans ((l366.sub (M := [3, 6]) rfl).trans (l422.sub (M := [3, 6]) rfl))) rfl
      obtain ⟨W432, ew432, l432, dj432⟩ := dyeE _ 4
      have s433 : Rd W432 [0, 5] [v0_0_346] z344.Commits := by rw [dj432]; exact (s430.dye 4).sub (M := [0, 5]) rfl
      have s434 : Rd W432 [0, 5] [v0_1_346] z344.Heads := by rw [dj432]; exact (s431.dye 4).sub (M := [0, 5]) rfl
      have s435 : Rd (α := List Vm.Commit) W432 [0] [v55] y54 := by rw [dj432]; exact (((((o56.up l346).up l357).up l366).up l422).rd.dye 4).sub (M := [0]) rfl
      have a436 := a423.t l432
      obtain ⟨W443, ew443, l443, dj443⟩ := dyeE _ 5
      have s444 : Rd W443 [0] [v0_0_346] z344.Commits := by rw [dj443]; exact (s433.dye 5).sub (M := [0]) rfl
      have s445 : Rd W443 [0] [v0_1_346] z344.Heads := by rw [dj443]; exact (s434.dye 5).sub (M := [0]) rfl
      have s446 : Rd (α := List Vm.Head) W443 [0] [v58] y57 := by rw [dj443]; exact ((((((o59.up l346).up l357).up l366).up l422).up l432).rd.dye 5).sub (M := [0]) rfl
      have a447 := a436.t l443
      cases hm
      rw [← ew443.trans (ew432)]
      exact Cw.ret (retA2 rfl ((b422.up l432).up l443) rfl (Res.mk a447 ⟨v0_0_346, v0_1_346, rfl, s444, s445⟩))
    ·refine rg (la b363 (mv v1_ rfl (ca hm (fun _ => p65 (Repo.rd (K := [0]) x0.Commits x0.Heads (h0_0.ul a358) (h0_1.ul a358)) (h1.ul a358)) fun z456 W458 hm l458 => Lw.r rfl (R.not rfl) (mb rfl (bs hm (fun hc467 hm => ?_) fun hc467 hm => ?_)))))
     ·exact psk 3 hc467 rfl (Pb hc467 rfl (nl ((ag) ⟨true, W458, rfl, l458, rfl, hm⟩)))
     ·refine wak 3 hc467 (la (b357.up l458) ?_)
      have s468 := s347.up ((l357.sub (M := [6]) rfl).trans (l458.sub (M := [6]) rfl)) rfl
      have s469 := s348.up ((l357.sub (M := [6]) rfl).trans (l458.sub (M := [6]) rfl)) rfl
      exact ca hm (fun _ => p42 (K := [0, 4, 5]) (Repo.rd (K := [0, 4, 5]) z344.Commits z344.Heads s468 s469)) fun z470 W472 hm l472 => Lw.r rfl (R.not rfl) (Pb hc467 rfl (nl ((ag) ⟨(!z470), W472, rfl, (l458.j l472).w, rfl, hm⟩)))
  ·refine sr (mv v1_ rfl (Lw.ln x1 (h1.ul a33) rfl (Lw.gt rfl (nl (cn hm (fun hm => ?_) fun hm => ?_)))))
   ·refine rg (mv v1_ rfl ?_)
    obtain ⟨u483, e484, hm⟩ := ob hm
    exact Lw.r rfl (R.ix (α := Int) (h1.ul a33) e484 rfl rfl rfl) (Lw.r rfl (R.ld rfl rfl ((h1.ul a33).at_ e484).int) (Ni rfl ((ag) ⟨u483, W32, rfl, Le.refl _ _, rfl, hm⟩)))
   ·exact sk ((ag) ⟨(-1), W32, rfl, Le.refl _ _, rfl, hm⟩)

theorem p20 {x0 v0_0_ v0_1_ x1 v1_ x2 v2_ x3 r} (h0 : Rd W K [v0_0_, v0_1_] x0) (h1 : Rd W K [v1_] x1) (h2 : Rd W K [v2_] x2) (hm : Vm.spec_SendTake x0 x1 x2 x3 = some r) : Q1 20 [.agg [v0_0_, v0_1_].toArray, v1_, v2_, vS x3] W [] fun W' v => ∃ u0_0 u0_1, v = .tuple [.agg [u0_0, u0_1].toArray, vB r.2].toArray ∧ Rd W' (0 :: K) [u0_0] r.1.Commits ∧ Rd W' (0 :: K) [u0_1] r.1.Heads :=
 (c20 (h0.view _) (h1.view _) (h2.view _) hm).ad (fk 0) fun _ _ ⟨u0_0, u0_1, e, f0, f1⟩ => ⟨u0_0, u0_1, e, f0.back rfl, f1.back rfl⟩

theorem c67 {x0 v0_0_ v0_1_ x1 v1_ r} (h0 : Rd W0 [0] [v0_0_, v0_1_] x0) (h1 : Rd W0 [0] [v1_] x1) (h99 : Gl 2 W0 [0]) (hm : Vm.impl_Repo_are x0 x1 = some r) : Q0 67 [.agg [v0_0_, v0_1_].toArray, v1_] W0 fun Wf v => v = vB r := by
 unfold Vm.impl_Repo_are at hm
 obtain ⟨w0_0, w0_1, he0, h0_0, h0_1⟩ := Repo.split h0
 simp only [List.cons.injEq, and_true, true_and] at he0
 obtain ⟨rfl, rfl⟩ := he0
 refine CallR.of Tryd.func67 rfl rfl rfl rfl (sr (bo 2 rfl fun g1 W1 l1 b1 => ?_))
 have a2 := l1.o
 refine Nb rfl (ssr (la b1 (ca hm (fun _ => p49 (Repo.rd (K := [0]) x0.Commits x0.Heads (h0_0.ul a2) (h0_1.ul a2)) (h99.ul a2)) fun z6 W8 hm l8 => ?_)))
 have a9 := a2.n l8
 refine Lw.r rfl (R.not rfl) (nl (cn hm (fun hm => ?_) fun hm => ?_))
 ·exact sr (Nb rfl (.ret (rt hm a9)))
 ·refine sk (ssr (mv v1_ rfl (Lw.ln x1 (h1.ul a9) rfl (mi rfl (nl (Cw.block ?_))))))
  obtain ⟨K17, hK17, hm⟩ := jn_e hm
  refine Cw.loop 12 20 [4, 6, 12] (fun m l w => ∃ y13 y15 j14 W16, CW.w W16 = w ∧ Le [] W8 W16 ∧ l = [vB y13, j14, vI y15] ∧ Vm.impl_Repo_are_l1 x0 x1 K17 m y13 y15 = some r) _ ⟨false, 0, undef, W8, rfl, Le.refl _ _, rfl, hm⟩ ?_
  rintro (_ | m18) _ _ σ ⟨y13, y15, j14, W16, rfl, l16, rfl, hm⟩
  ·cases hm
  unfold Vm.impl_Repo_are_l1 at hm
  have a19 := a9.n l16
  refine sr (Lw.lt rfl (nl (Cw.seq (cn hm (fun hm => ?_) fun hm => ?_))))
  ·refine sk (Cw.seq (Cw.block (sr ?_)))
   obtain ⟨u22, e23, hm⟩ := ob hm
   refine Lw.r rfl (R.ix (α := Int) (h1.ul a19) e23 rfl rfl rfl) (Lw.r rfl (R.ld rfl rfl ((h1.ul a19).at_ e23).int) (Ni rfl (sr (la ((b1.up l8).up l16) (mi rfl (ca hm (fun _ => p108 (Repo.rd (K := [0]) x0.Commits x0.Heads (h0_0.ul a19) (h0_1.ul a19))) fun z27 W29 hm l29 => ?_))))))
   have a30 := a19.n l29
   refine Lw.r rfl (R.not rfl) (nl (cn hm (fun hm => ?_) fun hm => ?_))
   ·exact sr (Nb rfl (.ret (rt hm a30)))
   ·exact sk (rg (Lw.add rfl (mi rfl (nl ((agm) ⟨y13, w64 (y15 + 1), vI u22, W29, rfl, (l16.j l29).w, rfl, hm⟩)))))
  ·refine Cw.exit ?_
   rw [hK17] at hm
   exact sr (Nb rfl (.ret (rt hm a19)))

theorem p67 {x0 v0_0_ v0_1_ x1 v1_ r} (h0 : Rd W K [v0_0_, v0_1_] x0) (h1 : Rd W K [v1_] x1) (h99 : Gl 2 W K) (hm : Vm.impl_Repo_are x0 x1 = some r) : Q1 67 [.agg [v0_0_, v0_1_].toArray, v1_] W [] fun W' v => v = vB r :=
 (c67 (h0.view _) (h1.view _) (h99.view _) hm).ad (fk 0) fun _ _ e => e

theorem c23 {x0 v0_0_ v0_1_ x1 v1_ x2 v2_ x3 r} (h0 : Rd W0 [0] [v0_0_, v0_1_] x0) (h1 : Rd W0 [0] [v1_] x1) (h2 : Rd W0 [0] [v2_] x2) (h99 : Gl 2 W0 [0]) (hm : Vm.impl_SendTake x0 x1 x2 x3 = some r) : Q0 23 [.agg [v0_0_, v0_1_].toArray, v1_, v2_, vS x3] W0 fun Wf v => ∃ u0_0 u0_1, v = .tuple [.agg [u0_0, u0_1].toArray, vB r.2].toArray ∧ OwS Wf [31] [] [u0_0] r.1.Commits ∧ OwS Wf [32] [] [u0_1] r.1.Heads := by
 unfold Vm.impl_SendTake at hm
 obtain ⟨w0_0, w0_1, he0, h0_0, h0_1⟩ := Repo.split h0
 simp only [List.cons.injEq, and_true, true_and] at he0
 obtain ⟨rfl, rfl⟩ := he0
 refine CallR.of Tryd.func23 rfl rfl rfl rfl (sr (bo 2 rfl fun g1 W1 l1 b1 => ?_))
 have a2 := l1.o
 refine al 3 [.slice none 0 0, .slice none 0 0] fun g3 W3 l3 b3 => ?_
 have a4 := a2.n l3
 refine Nb rfl (ssr (la (b1.up l3) (ca hm (fun _ => p49 (Repo.rd (K := [0]) x0.Commits x0.Heads (h0_0.ul a4) (h0_1.ul a4)) (h99.ul a4)) fun z9 W11 hm l11 => ?_)))
 have a12 := a4.n l11
 have b13 := (b1.up l3).up l11
 refine Lw.r rfl (R.not rfl) (nl (cn hm (fun hm => ?_) fun hm => ?_))
 ·refine sr (Lw.r rfl (R.bd (zs := [.slice none 0 0, .slice none 0 0]) (cs := [.slice none 0 0, .slice none 0 0]) [] rfl rfl rfl bp_nil) (sta (b3.up l11) (oc_cons rfl (oc_cons rfl oc_nil)) fun W16 l16 b16 => ?_))
  have a17 := a12.t l16
  refine Nb rfl ?_
  cases hm
  exact Cw.ret (retA2 rfl b16 rfl (Res.mk a17 ⟨.slice none 0 0, .slice none 0 0, rfl, (owsN []).sub rfl rfl, (owsN []).sub rfl rfl⟩))
 ·refine sk (Cw.seq ?_)
  obtain ⟨K21, hK21, hm⟩ := jn_e hm
  refine Cw.join 21 37 [37] (fun l w => ∃ y19 W20, CW.w W20 = w ∧ Le [] W11 W20 ∧ l = [vB y19] ∧ K21 y19 = some r) ?_ ?_
  ·rintro _ _ σ ⟨y19, W20, rfl, l20, rfl, hm⟩
   rw [hK21] at hm
   have a22 := a12.n l20
   have b23 := b13.up l20
   have b24 := (b3.up l11).up l20
   refine cn hm (fun hm => ?_) fun hm => ?_
   ·refine sr (la b23 (cr hm (fun _ => p52 (k0 := 4) (k1 := 5) (Repo.rd (K := [0]) x0.Commits x0.Heads (h0_0.ul a22) (h0_1.ul a22))) ?_))
    rintro z28 _ W30 hm l30 ⟨v0_0_30, v0_1_30, rfl, f30_0, f30_1⟩
    have a31 := a22.n l30
    refine sta (b24.up l30) (oc_cons f30_0.oc (oc_cons f30_1.oc oc_nil)) fun W34 l34 b34 => ?_
    have a35 := a31.t l34
    refine Nb rfl ?_
    obtain ⟨W39, ew39, l39, o39⟩ := (f30_0.up l34).dyeO 31
    have a40 := a35.t l39
    obtain ⟨W44, ew44, l44, o44⟩ := ((f30_1.up l34).up l39).dyeO 32
    have a45 := a40.t l44
    cases hm
    rw [← ew44.trans (ew39)]
    exact Cw.ret (retA2 rfl ((b34.up l39).up l44) rfl (Res.mk a45 ⟨v0_0_30, v0_1_30, rfl, (o39.up l44).s, o44.s⟩))
   ·refine sk (sr (la b23 (cr hm (fun _ => p52 (k0 := 6) (k1 := 7) (Repo.rd (K := [0]) x0.Commits x0.Heads (h0_0.ul a22) (h0_1.ul a22))) ?_)))
    rintro z51 _ W53 hm l53 ⟨v0_0_53, v0_1_53, rfl, f53_0, f53_1⟩
    have a54 := a22.n l53
    refine al 8 [.slice none 0 0, .slice none 0 0] fun g57 W57 l57 b57 => ?_
    have a58 := a54.n l57
    refine sta b57 (oc_cons (f53_0.up l57).oc (oc_cons (f53_1.up l57).oc oc_nil)) fun W63 l63 b63 => ?_
    have a64 := a58.t l63
    refine nl (sr (Ni rfl ?_))
    obtain ⟨K71, hK71, hm⟩ := jn_e hm
    refine Cw.join 42 47 [11] (fun l w => ∃ y69 W70, CW.w W70 = w ∧ Le [] W63 W70 ∧ l = [vI y69] ∧ K71 y69 = some r) ?_ ?_
    ·rintro _ _ σ ⟨y69, W70, rfl, l70, rfl, hm⟩
     rw [hK71] at hm
     have a72 := a64.n l70
     refine ssr (mv v2_ rfl (Lw.ln x2 (h2.ul a72) rfl (mi rfl (nl (Cw.block ?_)))))
     obtain ⟨K101, hK101, hm⟩ := jn_e hm
     refine Cw.loop 50 111 [9, 11, 12, 13, 14, 16, 50] (fun m l w => ∃ y79 y80 y85 y86 y89 y93 y96 j81 j82 j83 j84 v87 v90 v94 v97 W100, CW.w W100 = w ∧ Le [6, 8, 11, 12, 13, 14] W70 W100 ∧ l = [vB y79, vI y80, j81, j82, j83, j84, vI y85] ∧ Ow W100 9 [] [v87] y86 ∧ Ow W100 10 [] [v90] y89 ∧ Bx W100 3 g3 [v87, v90] ∧ Ow W100 6 [] [v94] y93 ∧ Ow W100 7 [] [v97] y96 ∧ Bx W100 8 g57 [v94, v97] ∧ Vm.impl_SendTake_l1 x0 x1 x2 K101 m y79 y80 y85 y86 y89 y93 y96 = some r) _ ⟨false, y69, 0, ([] : List Commit), ([] : List Head), z51.Commits, z51.Heads, undef, undef, undef, undef, .slice none 0 0, .slice none 0 0, v0_0_53, v0_1_53, W70, rfl, Le.refl _ _, rfl, owN 9 [], owN 10 [], ((((b24.up l53).up l57).up l63).up l70), (((f53_0.up l57).up l63).up l70), (((f53_1.up l57).up l63).up l70), (b63.up l70), hm⟩ ?_
     rintro (_ | m102) _ _ σ ⟨y79, y80, y85, y86, y89, y93, y96, j81, j82, j83, j84, v87, v90, v94, v97, W100, rfl, l100, rfl, o88, o91, b92, o95, o98, b99, hm⟩
     ·cases hm
     unfold Vm.impl_SendTake_l1 at hm
     have a103 := a72.t l100
     have b104 := ((((b23.up l53).up l57).up l63).up l70).up l100
     refine sr (Lw.lt rfl (nl (Cw.seq (cn hm (fun hm => ?_) fun hm => ?_))))
     ·refine sk (Cw.seq (Cw.block (sr (mi rfl ?_))))
      obtain ⟨u106, e107, hm⟩ := ob hm
      refine Lw.r rfl (R.ix (α := Commit) (h2.ul a103) e107 rfl rfl rfl) ?_
      obtain ⟨x109, c110, _, r111⟩ := ((h2.ul a103).at_ e107).cells
      obtain ⟨v112, v114, rfl, r113, r115⟩ := Commit.split r111
      refine Lw.r rfl (R.lda c110 rfl rfl) (al 11 [.slice none 0 0, vS ([] : Str), .slice none 0 0] fun g116 W116 l116 b116 => ?_)
      have a117 := l116.o
      refine Gi rfl (sta b116 (oc_cons r113.oc (oc_cons rfl (oc_cons r115.oc oc_nil))) fun W125 l125 b125 => ?_)
      have a126 := l125.s
      refine nl (Cw.seq ?_)
      obtain ⟨z145, e146, hm⟩ := ob hm
      refine Cw.par [[], [0], [], [2], [2, 3], [0, 1, 2, 3, 4], [], [0, 1, 2, 3, 4, 5, 6]] [[], [0], [], [2], [3], [1, 4], [], [4, 5, 6]] [[], [], [], [], [], [], [], [13]] [[0], [1], [2], [3], [4], [4, 5], [6], [4, 6]] [[], [], [], [], [12], [], [13], [13]] [0, 1, 2, 3, 4, 5, 7] [13] [fun vs W => (vs 0) = ptr ((bx g116).add 1), fun vs W => (vs 1) = vS u106.Who, fun vs W => (vs 2) = ptr ((bx g116).add 2), fun vs W => (vs 3) = v114, fun vs W => Ow W 12 [] [(vs 4)] z145, fun vs W => (vs 5) = .agg [.slice none 0 0, vS u106.Who, (vs 4)].toArray, fun vs W => (vs 6) = ptr (bx (pg (vs 6))) ∧ Bx W 13 (pg (vs 6)) [.slice none 0 0, vS ([] : Str), .slice none 0 0], fun vs W => (vs 6) = ptr (bx (pg (vs 6))) ∧ Bx W 13 (pg (vs 6)) [.slice none 0 0, vS u106.Who, (vs 4)]] [] mixed (by kernel_rfl) rfl AllF.nil ?_
      intro W179 l179
      have a180 := l179.o
      have b188 := b125.up l179
      refine ⟨(Steps.cons ?_ (Steps.cons ?_ (Steps.cons ?_ (Steps.cons ?_ (Steps.cons ?_ (Steps.cons ?_ (Steps.cons ?_ (Steps.cons ?_ Steps.nil)))))))), (Sups.cons (fun vs vs' W W' _ hv l hd h => by (show (vs' 0) = ptr ((bx g116).add 1)); rw [hv 0 (anyb rfl)]; exact h) (Sups.cons (fun vs vs' W W' _ hv l hd h => by (show (vs' 1) = vS u106.Who); rw [hv 1 (anyb rfl)]; exact h) (Sups.cons (fun vs vs' W W' _ hv l hd h => by (show (vs' 2) = ptr ((bx g116).add 2)); rw [hv 2 (anyb rfl)]; exact h) (Sups.cons (fun vs vs' W W' _ hv l hd h => by (show (vs' 3) = v114); rw [hv 3 (anyb rfl)]; exact h) (Sups.cons (fun vs vs' W W' _ hv l hd h => by (show Ow W' 12 [] [(vs' 4)] z145); rw [hv 4 (anyb rfl)]; exact h.upv l (disj_mem hd (c := 12) rfl)) (Sups.cons (fun vs vs' W W' _ hv l hd h => by (show (vs' 5) = .agg [.slice none 0 0, vS u106.Who, (vs' 4)].toArray); rw [hv 4 (anyb rfl), hv 5 (anyb rfl)]; exact h) (Sups.cons (fun vs vs' W W' _ hv l hd h => by (show (vs' 6) = ptr (bx (pg (vs' 6))) ∧ Bx W' 13 (pg (vs' 6)) [.slice none 0 0, vS ([] : Str), .slice none 0 0]); rw [hv 6 (anyb rfl)]; exact ⟨h.1, h.2.up l (disj_mem hd (c := 13) rfl)⟩) (Sups.cons (fun vs vs' W W' _ hv l hd h => by (show (vs' 6) = ptr (bx (pg (vs' 6))) ∧ Bx W' 13 (pg (vs' 6)) [.slice none 0 0, vS u106.Who, (vs' 4)]); rw [hv 4 (anyb rfl), hv 6 (anyb rfl)]; exact ⟨h.1, h.2.up l (disj_mem hd (c := 13) rfl)⟩) Sups.nil)))))))), ?_⟩
      ·intro vs W lW hN
       obtain ⟨W189, hW189⟩ : ∃ X, X = W := ⟨W, rfl⟩
       subst hW189
       refine Tr.mono (Run.tr (R.fa rfl)) ?_
       rintro _ _ ⟨hu, rfl⟩
       obtain rfl := hu.symm
       exact ⟨W189, rfl, Le.refl _ _, (show (ptr ((bx g116).add 1) : Value) = ptr ((bx g116).add 1) from rfl)⟩
      ·intro vs W lW hN
       obtain ⟨W199, hW199⟩ : ∃ X, X = W := ⟨W, rfl⟩
       subst hW199
       have e0_ : vs 0 = ptr ((bx g116).add 1) := (hN 0 (anyb rfl))
       obtain ⟨vs, rfl⟩ := up_eq e0_
       refine Tr.mono (Run.tr (R.ld (v := vS u106.Who) rfl rfl ((b188.up lW rfl).cell rfl))) ?_
       rintro _ _ ⟨hu, rfl⟩
       obtain rfl := hu.symm
       exact ⟨W199, rfl, Le.refl _ _, (show (vS u106.Who : Value) = vS u106.Who from rfl)⟩
      ·intro vs W lW hN
       obtain ⟨W209, hW209⟩ : ∃ X, X = W := ⟨W, rfl⟩
       subst hW209
       refine Tr.mono (Run.tr (R.fa rfl)) ?_
       rintro _ _ ⟨hu, rfl⟩
       obtain rfl := hu.symm
       exact ⟨W209, rfl, Le.refl _ _, (show (ptr ((bx g116).add 2) : Value) = ptr ((bx g116).add 2) from rfl)⟩
      ·intro vs W lW hN
       obtain ⟨W219, hW219⟩ : ∃ X, X = W := ⟨W, rfl⟩
       subst hW219
       have e2_ : vs 2 = ptr ((bx g116).add 2) := (hN 2 (anyb rfl))
       obtain ⟨vs, rfl⟩ := up_eq e2_
       refine Tr.mono (Run.tr (R.ld (v := v114) rfl rfl ((b188.up lW rfl).cell rfl))) ?_
       rintro _ _ ⟨hu, rfl⟩
       obtain rfl := hu.symm
       exact ⟨W219, rfl, Le.refl _ _, (show (v114 : Value) = v114 from rfl)⟩
      ·intro vs W lW hN
       obtain ⟨W229, hW229⟩ : ∃ X, X = W := ⟨W, rfl⟩
       subst hW229
       have a230 := ((a117.trans a126).trans a180).t lW rfl
       have e3_ : vs 3 = v114 := (hN 3 (anyb rfl))
       obtain ⟨vs, rfl⟩ := up_eq e3_
       refine Tr.mono (T.call rfl (p68 (k0 := 12) (r115.ul a230) e146)) ?_
       rintro v0_240 _ ⟨W240, rfl, l240, ⟨_, rfl, f240_0⟩⟩
       exact ⟨W240, rfl, l240, (show Ow W240 12 [] [v0_240] z145 from f240_0)⟩
      ·intro vs W lW hN
       obtain ⟨W250, hW250⟩ : ∃ X, X = W := ⟨W, rfl⟩
       subst hW250
       have e1_ : vs 1 = vS u106.Who := (hN 1 (anyb rfl))
       obtain ⟨vs, rfl⟩ := up_eq e1_
       obtain ⟨pv4, e4_⟩ : ∃ v, vs 4 = v := ⟨_, rfl⟩
       obtain ⟨vs, rfl⟩ := up_eq e4_
       have o260 : Ow W250 12 [] [pv4] z145 := (hN 4 (anyb rfl))
       refine Tr.mono (Run.tr (R.bd (zs := [.slice none 0 0, vS ([] : Str), .slice none 0 0]) (cs := [.slice none 0 0, vS u106.Who, pv4]) [(1, vS u106.Who), (2, pv4)] rfl rfl rfl (bp_cons rfl rfl (bp_cons o260.oc rfl bp_nil)))) ?_
       rintro _ _ ⟨hu, rfl⟩
       obtain rfl := hu.symm
       exact ⟨W250, rfl, Le.refl _ _, (show (.agg [.slice none 0 0, vS u106.Who, pv4].toArray : Value) = .agg [.slice none 0 0, vS u106.Who, pv4].toArray from rfl)⟩
      ·intro vs W lW hN
       obtain ⟨W261, hW261⟩ : ∃ X, X = W := ⟨W, rfl⟩
       subst hW261
       refine Tr.mono (T.alloc 13 (cs := [.slice none 0 0, vS ([] : Str), .slice none 0 0]) rfl) ?_
       rintro _ _ ⟨g271, W271, rfl, rfl, l271, b271⟩
       exact ⟨W271, rfl, l271, (show (ptr (bx g271) : Value) = ptr (bx g271) ∧ Bx W271 13 g271 [.slice none 0 0, vS ([] : Str), .slice none 0 0] from ⟨rfl, b271⟩)⟩
      ·intro vs W lW hN
       obtain ⟨W281, hW281⟩ : ∃ X, X = W := ⟨W, rfl⟩
       subst hW281
       obtain ⟨pv4, e4_⟩ : ∃ v, vs 4 = v := ⟨_, rfl⟩
       obtain ⟨vs, rfl⟩ := up_eq e4_
       have o291 : Ow W281 12 [] [pv4] z145 := (hN 4 (anyb rfl))
       have e5_ : vs 5 = .agg [.slice none 0 0, vS u106.Who, pv4].toArray := (hN 5 (anyb rfl))
       obtain ⟨vs, rfl⟩ := up_eq e5_
       obtain ⟨pg6, e6_⟩ : ∃ pg6, vs 6 = ptr (bx pg6) := ⟨_, ((hN 6 (anyb rfl))).1⟩
       obtain ⟨vs, rfl⟩ := up_eq e6_
       have o292 : Bx W281 13 pg6 [.slice none 0 0, vS ([] : Str), .slice none 0 0] := (hN 6 (anyb rfl)).2
       refine Tr.mono (T.sta (vs := [.slice none 0 0, vS u106.Who, pv4]) o292 rfl rfl (oc_cons rfl (oc_cons rfl (oc_cons o291.oc oc_nil))) rfl rfl) ?_
       rintro _ _ ⟨W293, rfl, l293, b293⟩
       exact ⟨W293, rfl, l293, (show (ptr (bx pg6)) = ptr (bx pg6) ∧ Bx W293 13 pg6 [.slice none 0 0, vS u106.Who, pv4] from ⟨rfl, b293⟩)⟩
      ·intro vs W lW hN
       obtain ⟨W304, hW304⟩ : ∃ X, X = W := ⟨W, rfl⟩
       subst hW304
       have a305 := lW.s rfl
       obtain ⟨l304, hl304⟩ : ∃ x, x = lW := ⟨lW, rfl⟩
       have e0_ : vs 0 = ptr ((bx g116).add 1) := (hN 0 (anyb rfl))
       obtain ⟨vs, rfl⟩ := up_eq e0_
       have e1_ : vs 1 = vS u106.Who := (hN 1 (anyb rfl))
       obtain ⟨vs, rfl⟩ := up_eq e1_
       have e2_ : vs 2 = ptr ((bx g116).add 2) := (hN 2 (anyb rfl))
       obtain ⟨vs, rfl⟩ := up_eq e2_
       have e3_ : vs 3 = v114 := (hN 3 (anyb rfl))
       obtain ⟨vs, rfl⟩ := up_eq e3_
       obtain ⟨pv4, e4_⟩ : ∃ v, vs 4 = v := ⟨_, rfl⟩
       obtain ⟨vs, rfl⟩ := up_eq e4_
       have o314 : Ow W304 12 [] [pv4] z145 := (hN 4 (anyb rfl))
       have e5_ : vs 5 = .agg [.slice none 0 0, vS u106.Who, pv4].toArray := (hN 5 (anyb rfl))
       obtain ⟨vs, rfl⟩ := up_eq e5_
       obtain ⟨pg6, e6_⟩ : ∃ pg6, vs 6 = ptr (bx pg6) := ⟨_, (hN 7 (anyb rfl)).1⟩
       obtain ⟨vs, rfl⟩ := up_eq e6_
       have o315 : Bx W304 13 pg6 [.slice none 0 0, vS u106.Who, pv4] := (hN 7 (anyb rfl)).2
       refine ssr (fl (b188.up lW rfl) rfl (Lw.ln u106.Parents (r113.ul (((a117.trans a126).trans a180).trans a305)) rfl (mi rfl (nl (Cw.block ?_)))))
       obtain ⟨K336, hK336, hm⟩ := jn_e hm
       refine Cw.loop 64 101 [9, 16, 64] (fun m l w => ∃ y317 y319 y320 y323 y327 y330 y331 j318 v321 v324 v328 v332 W335, CW.w W335 = w ∧ Le [13, 14] W304 W335 ∧ l = [vB y317, j318, vI y319] ∧ Ow W335 9 [] [v321] y320 ∧ Ow W335 10 [] [v324] y323 ∧ Bx W335 3 g3 [v321, v324] ∧ Ow W335 14 [] [v328] y327 ∧ Ow W335 12 [] [v332] y331 ∧ Bx W335 13 pg6 [v328, vS y330, v332] ∧ Vm.impl_SendTake_l2 x0 x1 y85 u106 K336 m y317 y319 y320 y323 y327 y330 y331 = some r) _ ⟨y79, 0, y86, y89, ([] : List Int), u106.Who, z145, j84, v87, v90, .slice none 0 0, pv4, W304, rfl, Le.refl _ _, rfl, ((((o88.up l116).up l125).up l179).up lW rfl), ((((o91.up l116).up l125).up l179).up lW rfl), ((((b92.up l116).up l125).up l179).up lW rfl), owN 14 [], o314, o315, hm⟩ ?_
       rintro (_ | m337) _ _ σ ⟨y317, y319, y320, y323, y327, y330, y331, j318, v321, v324, v328, v332, W335, rfl, l335, rfl, o322, o325, b326, o329, o333, b334, hm⟩
       ·cases hm
       unfold Vm.impl_SendTake_l2 at hm
       have a338 := l335.s
       have o339 := ((((o95.up l116).up l125).up l179).up lW rfl).up l335
       have b342 := ((((b99.up l116).up l125).up l179).up lW rfl).up l335
       refine sr (Lw.lt rfl (nl (Cw.seq (cn hm (fun hm => ?_) fun hm => ?_))))
       ·refine sk ?_
        obtain ⟨K363, hK363, hm⟩ := jn_e hm
        refine Cw.join 66 100 [9, 16] (fun l w => ∃ y345 y347 y350 y354 y357 y358 j346 v348 v351 v355 v359 W362, CW.w W362 = w ∧ Le [13, 14] W335 W362 ∧ l = [vB y345, j346] ∧ Ow W362 9 [] [v348] y347 ∧ Ow W362 10 [] [v351] y350 ∧ Bx W362 3 g3 [v348, v351] ∧ Ow W362 14 [] [v355] y354 ∧ Ow W362 12 [] [v359] y358 ∧ Bx W362 13 pg6 [v355, vS y357, v359] ∧ K363 y345 y347 y350 y354 y357 y358 = some r) ?_ ?_
        ·rintro _ _ σ ⟨y345, y347, y350, y354, y357, y358, j346, v348, v351, v355, v359, W362, rfl, l362, rfl, o349, o352, b353, o356, o360, b361, hm⟩
         rw [hK363] at hm
         exact rg (Lw.add rfl (mi rfl (nl ((agm) ⟨y345, w64 (y319 + 1), y347, y350, y354, y357, y358, j346, v348, v351, v355, v359, W362, rfl, (l335.j l362).w, rfl, o349, o352, b353, o356, o360, b361, hm⟩))))
        ·refine Cw.block (sr ?_)
         obtain ⟨u370, e371, hm⟩ := ob hm
         have s372 := r113.ul ((((a117.trans a126).trans a180).trans a305).trans a338)
         refine Lw.r rfl (R.ix (α := Int) s372 e371 rfl rfl rfl) (Lw.r rfl (R.ld rfl rfl (s372.at_ e371).int) (Ni rfl (Cw.block (sr (mi rfl (mi rfl (Lw.sub rfl (ca hm (fun _ => p69) fun z373 W375 hm l375 => ?_))))))))
         have a376 := (((((a103.trans a117).trans a126).trans a180).trans a305).trans a338).n l375
         have b383 := (((((b104.up l116).up l125).up l179).up lW rfl).up l335).up l375
         have b387 := b334.up l375
         refine Nb rfl (cn hm (fun hm => ?_) fun hm => ?_)
         ·refine rg (fl b387 rfl (fl b383 rfl (Lw.ln x0.Commits (h0_0.ul a376) rfl (mi rfl (Lw.add rfl (Lw.t rfl (T.bs 15 [vI (w64 ((x0.Commits.length : Int) + u370))] (cs := [vI (w64 ((x0.Commits.length : Int) + u370))]) rfl rfl (bsv rfl)) ?_))))))
          rintro _ _ ⟨g390, W390, rfl, rfl, l390, b390⟩
          obtain ⟨q403, e404, hm⟩ := ob hm
          refine Lw.t rfl (T.app1S (α := Int) (K' := []) ((o329.up l375).up l390) b390 (rdI _) rfl rfl e404) ?_
          rintro v405 _ ⟨W405, rfl, l405, o405⟩
          refine Lw.fa rfl (Lw.u (T.st (j := 0) (v := v405) ((b387.up l390).up l405) rfl rfl o405.oc rfl rfl) ?_)
          rintro _ _ ⟨W418, rfl, l418, b418⟩
          exact nl ((ag) ⟨y317, y320, y323, q403, y330, y331, vI u370, v321, v324, v405, v332, W418, rfl, (((l375.j l390).j l405).j l418).w, rfl, ((((o322.up l375).up l390).up l405).up l418), ((((o325.up l375).up l390).up l405).up l418), ((((b326.up l375).up l390).up l405).up l418), (o405.up l418), ((((o333.up l375).up l390).up l405).up l418), b418, hm⟩)
         ·refine sr (mi rfl (mv v1_ rfl (Lw.ln x1 (h1.ul a376) rfl (Lw.r rfl (R.neg rfl) (ca hm (fun _ => p69) fun z432 W434 hm l434 => ?_)))))
          have a435 := a376.n l434
          have b443 := (b326.up l375).up l434
          refine Nb rfl (cn hm (fun hm => ?_) fun hm => ?_)
          ·refine Cw.draw [14] [(0, 0), (1, 1), (2, 0), (3, 0), (4, 0), (5, 0), (6, 1), (7, 2), (8, 2), (9, 0), (10, 3)] mixed (by kernel_rfl) fun W448 l448 => ?_
           have a449 := a435.n l448
           refine Dfl ((b387.up l434).up l448) rfl rfl rfl (Dv v1_ rfl (Di rfl (Mw.p rfl rfl (fun _ => R.sub rfl rfl) ?_)))
           obtain ⟨u461, e462, hm⟩ := ob hm
           refine Mw.p rfl rfl (fun _ => R.ix (α := Int) (h1.ul a449) e462 rfl rfl rfl) (Mw.q rfl rfl (fun _ c => R.ld rfl rfl (cl_cell ((h1.ul a449).at_ e462).1 rfl ((h1.ul a449).at_ e462).int c)) (Mw.t rfl rfl (T.bs 16 [vI u461] (cs := [vI u461]) rfl rfl (bsv rfl)) ?_))
           rintro _ _ ⟨g464, W464, rfl, rfl, l464, b464⟩
           refine m0 l464 fun d464 => ?_
           obtain ⟨q477, e478, hm⟩ := ob hm
           refine Mw.t rfl rfl (T.app1S (α := Int) (K' := []) ((((o329.up l375).up l434).up l448).up l464) b464 (rdI _) rfl rfl e478) ?_
           rintro v479 _ ⟨W479, rfl, l479, o479⟩
           refine mc d464 l479 fun d479 => Df rfl (Mw.lu rfl (T.st (j := 0) (v := v479) ((((b387.up l434).up l448).up l464).up l479) rfl rfl o479.oc rfl rfl) ?_)
           rintro _ _ ⟨W492, rfl, l492, b492⟩
           exact Mw.nil ((ag) ⟨y317, y320, y323, q477, y330, y331, vI u370, v321, v324, v479, v332, W492, rfl, (((((l375.j l434).j l448).j l464).j l479).j l492).w, rfl, ((((((o322.up l375).up l434).up l448).up l464).up l479).up l492), ((((((o325.up l375).up l434).up l448).up l464).up l479).up l492), ((((b443.up l448).up l464).up l479).up l492), (o479.up l492), ((((((o333.up l375).up l434).up l448).up l464).up l479).up l492), b492, hm⟩)
          ·refine sr (la (b383.up l434) (cr hm (fun _ => p52 (k0 := 17) (k1 := 18) (Repo.rd (K := [0]) x0.Commits x0.Heads (h0_0.ul a435) (h0_1.ul a435))) ?_))
           rintro z507 _ W509 hm l509 ⟨v0_0_509, v0_1_509, rfl, f509_0, f509_1⟩
           have a510 := a435.n l509
           refine sta (b443.up l509) (oc_cons f509_0.oc (oc_cons f509_1.oc oc_nil)) fun W522 l522 b522 => ?_
           have a523 := a510.t l522
           refine Nb rfl ?_
           obtain ⟨W536, ew536, l536, o536⟩ := (f509_0.up l522).dyeO 31
           have a537 := a523.t l536
           obtain ⟨W550, ew550, l550, o550⟩ := ((f509_1.up l522).up l536).dyeO 32
           have a551 := a537.t l550
           cases hm
           rw [← ew550.trans (ew536)]
           exact Cw.ret (retA2 rfl ((b522.up l536).up l550) rfl (Res.mk a551 ⟨v0_0_509, v0_1_509, rfl, (o536.up l550).s, o550.s⟩))
       ·refine Cw.exit ?_
        rw [hK336] at hm
        refine sr (fl b342 rfl (Lw.ln y93 o339.rd rfl (Ni rfl (rg (fl b342 rfl (la b334 (Lw.t rfl (T.bs 19 [.agg [v328, vS y330, v332].toArray] (cs := [v328, vS y330, v332]) rfl rfl (bsA rfl)) ?_)))))))
        rintro _ _ ⟨g564, W564, rfl, rfl, l564, b564⟩
        obtain ⟨q577, e578, hm⟩ := ob hm
        refine Lw.t rfl (T.app1 (α := Commit) (J := [14, 12]) (K' := []) (o339.up l564) b564 (Commit.own y327 y330 y331 (o329.up l564).s (o333.up l564).s) rfl rfl e578) ?_
        rintro v579 _ ⟨W579, rfl, l579, o579⟩
        refine Lw.fa rfl (Lw.u (T.st (j := 0) (v := v579) ((b342.up l564).up l579) rfl rfl o579.oc rfl rfl) ?_)
        rintro _ _ ⟨W590, rfl, l590, b590⟩
        exact nl (rg (Lw.add rfl (mi rfl (nl ((agm) ⟨y317, (y93.length : Int), w64 (y85 + 1), y320, y323, q577, y96, vI y85, ptr (bx g116), ptr (bx pg6), j318, v321, v324, v579, v97, W590, rfl, ((((((((l100.j l116).j l125).j l179).j l304).j l335).j l564).j l579).j l590).w, rfl, (((o322.up l564).up l579).up l590), (((o325.up l564).up l579).up l590), (((b326.up l564).up l579).up l590), (o579.up l590), ((((((((o98.up l116).up l125).up l179).up lW rfl).up l335).up l564).up l579).up l590), b590, hm⟩)))))
     ·refine Cw.exit ?_
      rw [hK101] at hm
      refine Cw.seq (Cw.draw [6, 7, 20, 21] [(0, 1), (1, 1), (2, 0), (3, 0), (4, 2), (5, 2), (6, 0), (7, 0), (8, 3), (9, 0)] mixed (by kernel_rfl) fun W601 l601 => ?_)
      have a602 := a103.n l601
      refine Mw.q rfl rfl (fun _ c => R.lda (cs := [v0_0_, v0_1_]) ((b104.up l601).clcs rfl c) rfl rfl) (Mw.q rfl rfl (fun _ c => R.lda (cs := [v94, v97]) ((b99.up l601).clcs rfl c) rfl rfl) (Ds rfl (Di rfl ?_)))
      obtain ⟨z610, e611, hm⟩ := ob hm
      refine Mw.t rfl rfl (T.call rfl (p70 (K := [0]) (k0 := 20) (k1 := 21) (c0 := 6) (c1 := 7) (x0 := (Vm.Repo.mk y93 y96)) (o95.up l601) (o98.up l601) rfl e611)) ?_
      rintro _ _ ⟨W612, rfl, l612, ⟨v0_0_612, v0_1_612, rfl, f612_0, f612_1⟩⟩
      have a613 := a602.t l612
      refine m0 l612 fun d612 => ?_
      obtain ⟨z622, e623, hm⟩ := ob hm
      refine Mw.t rfl rfl (T.call rfl (p51 (k0 := 22) (k1 := 23) (c0 := 20) (c1 := 21) (x1 := (Vm.Repo.mk z610.Commits z610.Heads)) (Repo.rd (K := [0]) x0.Commits x0.Heads (h0_0.ul a613) (h0_1.ul a613)) f612_0 f612_1 (h99.ul a613) rfl e623)) ?_
      rintro _ _ ⟨W624, rfl, l624, ⟨v0_0_624, v0_1_624, rfl, f624_0, f624_1⟩⟩
      have a625 := a613.t l624
      refine mc d612 l624 fun d624 => Mw.p rfl rfl (fun _ => R.ext (vs := [.agg [v0_0_624, v0_1_624].toArray, vB z622.2]) (v := .agg [v0_0_624, v0_1_624].toArray) rfl rfl) (Mw.p rfl rfl (fun _ => R.ext (vs := [.agg [v0_0_624, v0_1_624].toArray, vB z622.2]) (v := vB z622.2) rfl rfl) (Mw.lu rfl (T.sta (vs := [v0_0_624, v0_1_624]) (((b92.up l601).up l612).up l624) rfl rfl (oc_cons f624_0.oc (oc_cons f624_1.oc oc_nil)) rfl rfl) ?_))
      rintro _ _ ⟨W631, rfl, l631, b631⟩
      have a632 := a625.t l631
      refine Hb rfl (Mw.nil ?_)
      obtain ⟨W639, ew639, l639, o639⟩ := (f624_0.up l631).dyeO 31
      have a640 := a632.t l639
      obtain ⟨W647, ew647, l647, o647⟩ := ((f624_1.up l631).up l639).dyeO 32
      have a648 := a640.t l647
      cases hm
      rw [← ew647.trans (ew639)]
      exact Cw.ret (retA2 rfl ((b631.up l639).up l647) rfl (Res.mk a648 ⟨v0_0_624, v0_1_624, rfl, (o639.up l647).s, o647.s⟩))
    ·refine sr (mv v1_ rfl (Lw.ln x1 (h1.ul a64) rfl (Lw.gt rfl (nl (cn hm (fun hm => ?_) fun hm => ?_)))))
     ·refine rg (mv v1_ rfl ?_)
      obtain ⟨u657, e658, hm⟩ := ob hm
      exact Lw.r rfl (R.ix (α := Int) (h1.ul a64) e658 rfl rfl rfl) (Lw.r rfl (R.ld rfl rfl ((h1.ul a64).at_ e658).int) (Ni rfl ((ag) ⟨u657, W63, rfl, Le.refl _ _, rfl, hm⟩)))
     ·exact sk ((ag) ⟨(-1), W63, rfl, Le.refl _ _, rfl, hm⟩)
  ·refine rg (mv v1_ rfl (Lw.ln x1 (h1.ul a12) rfl (Lw.gt rfl (mb rfl (bs hm (fun hc660 hm => ?_) fun hc660 hm => ?_)))))
   ·exact psk 4 hc660 rfl (Pb hc660 rfl (mb rfl (psk 6 rfl rfl (Pb rfl rfl (nl ((ag) ⟨true, W11, rfl, Le.refl _ _, rfl, hm⟩))))))
   ·refine wak 4 hc660 (la b13 (mv v1_ rfl (ca hm (fun _ => p67 (Repo.rd (K := [0]) x0.Commits x0.Heads (h0_0.ul a12) (h0_1.ul a12)) (h1.ul a12) (h99.ul a12)) fun z664 W666 hm l666 => ?_)))
    have a667 := a12.n l666
    refine Lw.r rfl (R.not rfl) (Pb hc660 rfl (mb rfl (bs hm (fun hc670 hm => ?_) fun hc670 hm => ?_)))
    ·exact psk 6 hc670 rfl (Pb hc670 rfl (nl ((ag) ⟨true, W666, rfl, l666, rfl, hm⟩)))
    ·exact wak 6 hc670 (mv v2_ rfl (Lw.ln x2 (h2.ul a667) rfl (mv v1_ rfl (Lw.ln x1 (h1.ul a667) rfl (Lw.add rfl (Lw.eq rfl (Pb hc670 rfl (nl ((ag) ⟨((w64 ((x2.length : Int) + (x1.length : Int)) : Int) == (0 : Int)), W666, rfl, l666, rfl, hm⟩)))))))))

theorem p23 {x0 v0_0_ v0_1_ x1 v1_ x2 v2_ x3 k0 k1 r} (h0 : Rd W K [v0_0_, v0_1_] x0) (h1 : Rd W K [v1_] x1) (h2 : Rd W K [v2_] x2) (h99 : Gl 2 W K) (hm : Vm.impl_SendTake x0 x1 x2 x3 = some r) : Q1 23 [.agg [v0_0_, v0_1_].toArray, v1_, v2_, vS x3] W [] fun W' v => ∃ u0_0 u0_1, v = .tuple [.agg [u0_0, u0_1].toArray, vB r.2].toArray ∧ Ow W' k0 [] [u0_0] r.1.Commits ∧ Ow W' k1 [] [u0_1] r.1.Heads :=
 CallR.adJ (J := []) (fun c => bif Nat.beq c 0 then 0 else bif Nat.beq c 31 then k0 else bif Nat.beq c 32 then k1 else 0) (c23 (h0.view _) (h1.view _) (h2.view _) (h99.view _) hm) fun _ _ ⟨u0_0, u0_1, e, f0, f1⟩ => ⟨u0_0, u0_1, e, f0.one1.backN rfl, f1.one1.backN rfl⟩

end Go.Sx
