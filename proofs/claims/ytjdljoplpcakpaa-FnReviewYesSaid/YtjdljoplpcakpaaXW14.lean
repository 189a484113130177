/- Walks: each function answers as its model, printed by a program of ours. Conditions: the arguments read as they are given. -/
import Derived.Test.YtjdljoplpcakpaaXTs
import Derived.Test.YtjdljoplpcakpaaXMd
import Derived.Test.YtjdljoplpcakpaaXW10
import Derived.Test.YtjdljoplpcakpaaXW2
import Derived.Test.YtjdljoplpcakpaaXW9
import Derived.Test.YtjdljoplpcakpaaXE
namespace Go.Sx
open Go Go.Proofs Go.Vm Rp
set_option linter.unusedVariables false
set_option linter.unusedSimpArgs false

theorem c82 {V : CW} {x0 : Vm.l30Rd} {g0_ : Nat} {v0_0_ : Value} {r : Vm.Review × Int} (hB0 : Bx V 2 g0_ [v0_0_, vI x0.p]) (h0_0 : Rd V [0] [v0_0_] x0.b) (hm : Vm.spec_l30Review x0 = some r) : CallR Try.prog 82 [ptr (bx g0_)].toArray V.w (Res V LL fun Wf v => ∃ (u0_3 : Value), v = .agg [vS r.1.Branch, vS r.1.Into, vS r.1.By, u0_3].toArray ∧ OwS Wf [31] [] [u0_3] r.1.Yes ∧ Bx Wf 2 g0_ [v0_0_, vI r.2]) := by
 unfold Vm.spec_l30Review at hm
 obtain ⟨W0, hW0⟩ : ∃ W, W = V := ⟨V, rfl⟩
 subst hW0
 refine CallR.of Try.func82 rfl rfl rfl rfl (Cw.seq (Cw.region (Lw.t rfl (T.alloc 3 (cs := [vS ([] : Str), vS ([] : Str), vS ([] : Str), .slice none 0 0]) rfl) ?_)))
 rintro _ _ ⟨g1, W1, rfl, rfl, l1, b1⟩
 have a2 := l1.o
 have b3 := hB0.up l1 rfl
 refine Lw.nil (Cw.seq (Cw.region (Lw.m (ptr (bx g0_)) rfl (Lw.t rfl (T.bsS (α := Str) (xs := [([115, 105, 100, 101] : Str), ([100, 101, 118] : Str), ([109, 97, 105, 110] : Str)]) 4 [] (W := W1) [vS ([115, 105, 100, 101] : Str), vS ([100, 101, 118] : Str), vS ([109, 97, 105, 110] : Str)] (Each.cons ((rdS _)) (Each.cons ((rdS _)) (Each.cons ((rdS _)) Each.nil))) rfl) ?_))))
 rintro v4 _ ⟨W4, rfl, l4, o4⟩
 have a5 := a2.n l4
 obtain ⟨z9, e10, hm⟩ := ob hm
 refine Lw.t rfl (T.call rfl (p83 (K := [0, 4])  (c0 := 2) (x0 := x0) (b3.up l4 rfl) ((h0_0.ul a5).sub (M := [0, 4]) rfl) (o4.rd.sub (M := [0, 4]) rfl) rfl e10)) ?_
 rintro _ _ ⟨W11, rfl, l11, ⟨rfl, f11_0⟩⟩
 have a12 := a5.t l11 rfl
 refine Lw.m (ptr (bx g0_)) rfl (Lw.t rfl (T.bsS (α := Str) (xs := [([109, 97, 105, 110] : Str), ([109, 97, 105, 110] : Str), ([100, 101, 118] : Str)]) 5 [] (W := W11) [vS ([109, 97, 105, 110] : Str), vS ([109, 97, 105, 110] : Str), vS ([100, 101, 118] : Str)] (Each.cons ((rdS _)) (Each.cons ((rdS _)) (Each.cons ((rdS _)) Each.nil))) rfl) ?_)
 rintro v15 _ ⟨W15, rfl, l15, o15⟩
 have a16 := a12.n l15
 obtain ⟨z21, e22, hm⟩ := ob hm
 refine Lw.t rfl (T.call rfl (p83 (K := [0, 5])  (c0 := 2) (x0 := (Vm.l30Rd.mk x0.b z9.2)) (f11_0.up l15 rfl) ((h0_0.ul a16).sub (M := [0, 5]) rfl) (o15.rd.sub (M := [0, 5]) rfl) rfl e22)) ?_
 rintro _ _ ⟨W23, rfl, l23, ⟨rfl, f23_0⟩⟩
 have a24 := a16.t l23 rfl
 refine Lw.m (ptr (bx g0_)) rfl (Lw.t rfl (T.bsS (α := Str) (xs := [([97, 110, 110] : Str), ([98, 111, 98] : Str), ([101, 118, 101] : Str)]) 6 [] (W := W23) [vS ([97, 110, 110] : Str), vS ([98, 111, 98] : Str), vS ([101, 118, 101] : Str)] (Each.cons ((rdS _)) (Each.cons ((rdS _)) (Each.cons ((rdS _)) Each.nil))) rfl) ?_)
 rintro v28 _ ⟨W28, rfl, l28, o28⟩
 have a29 := a24.n l28
 obtain ⟨z35, e36, hm⟩ := ob hm
 refine Lw.t rfl (T.call rfl (p83 (K := [0, 6])  (c0 := 2) (x0 := (Vm.l30Rd.mk x0.b z21.2)) (f23_0.up l28 rfl) ((h0_0.ul a29).sub (M := [0, 6]) rfl) (o28.rd.sub (M := [0, 6]) rfl) rfl e36)) ?_
 rintro _ _ ⟨W37, rfl, l37, ⟨rfl, f37_0⟩⟩
 have a38 := a29.t l37 rfl
 refine Lw.r rfl (R.bd (zs := [vS ([] : Str), vS ([] : Str), vS ([] : Str), .slice none 0 0]) (cs := [vS z9.1, vS z21.1, vS z35.1, .slice none 0 0]) [(0, vS z9.1), (1, vS z21.1), (2, vS z35.1)] rfl rfl rfl (bp_cons rfl rfl (bp_cons rfl rfl (bp_cons rfl rfl bp_nil)))) (Lw.t rfl (T.alloc 7 (cs := [vS ([] : Str), vS ([] : Str), vS ([] : Str), .slice none 0 0]) rfl) ?_)
 rintro _ _ ⟨g43, W43, rfl, rfl, l43, b43⟩
 have a44 := a38.n l43
 refine Lw.u (T.sta (vs := [vS z9.1, vS z21.1, vS z35.1, .slice none 0 0]) b43 rfl rfl (oc_cons rfl (oc_cons rfl (oc_cons rfl (oc_cons rfl oc_nil)))) rfl rfl) ?_
 rintro _ _ ⟨W50, rfl, l50, b50⟩
 have a51 := a44.t l50 rfl
 refine Lw.nil (Cw.seq (Cw.region (Lw.t rfl (T.bsS (α := Str) (xs := [([97, 110, 110] : Str), ([98, 111, 98] : Str), ([99, 105, 100] : Str)]) 8 [] (W := W50) [vS ([97, 110, 110] : Str), vS ([98, 111, 98] : Str), vS ([99, 105, 100] : Str)] (Each.cons ((rdS _)) (Each.cons ((rdS _)) (Each.cons ((rdS _)) Each.nil))) rfl) ?_)))
 rintro v57 _ ⟨W57, rfl, l57, o57⟩
 have a58 := a51.n l57
 refine Lw.g v57 rfl (Lw.nil (Cw.seq (Cw.seq (Cw.region (Lw.g (vI 0) rfl (Lw.nil (Cw.block ?_)))))))
 obtain ⟨K76, hK76, hm⟩ := jn_e hm
 refine Cw.loop 17 34 [5] (fun m l w => ∃ (y65 : Int) (y66 : Int) (y68 : Str) (y69 : Str) (y70 : Str) (y71 : List Str) (v72 : Value) (W75 : CW), W75.w = w ∧ Le [2, 7, 9] W57 W75 ∧ l = [vI y65] ∧ Bx W75 2 g0_ [v0_0_, vI y66] ∧ Ow W75 9 [] [v72] y71 ∧ Bx W75 7 g43 [vS y68, vS y69, vS y70, v72] ∧ Vm.spec_l30Review_l1 x0 K76 m y65 y66 y68 y69 y70 y71 = some r) (((([([97, 110, 110] : Str), ([98, 111, 98] : Str), ([99, 105, 100] : Str)] : List Str).length : Int) - 0).toNat + 1) ⟨0, z35.2, z9.1, z21.1, z35.1, ([] : List Str), .slice none 0 0, W57, rfl, Le.refl _ _, rfl, (((f37_0.up l43 rfl).up l50 rfl).up l57 rfl), owN 9 [], (b50.up l57 rfl), hm⟩ ?_
 rintro m77 _ _ σ ⟨y65, y66, y68, y69, y70, y71, v72, W75, rfl, l75, rfl, b67, o73, b74, hm⟩
 obtain _ | m77 := m77
 ·cases hm
 unfold Vm.spec_l30Review_l1 at hm
 have a78 := a58.t l75 rfl
 refine Cw.seq (Cw.seq (Cw.region (Lw.m (vI y65) rfl (Lw.m v57 rfl (Lw.ln (([([97, 110, 110] : Str), ([98, 111, 98] : Str), ([99, 105, 100] : Str)] : List Str)) (o57.up l75 rfl).rd rfl (Lw.lt rfl (Lw.nil (Cw.cond (b := decide ((y65 : Int) < ((([([97, 110, 110] : Str), ([98, 111, 98] : Str), ([99, 105, 100] : Str)] : List Str).length : Int) : Int))) rfl (fun hc84 => ?_) (fun hc84 => ?_)))))))))
 ·replace hm := bt hm hc84
  refine Cw.skip ?_
  obtain ⟨K95, hK95, hm⟩ := jn_e hm
  refine Cw.join 23 34 [] (fun l w => ∃ (y85 : Int) (y87 : Str) (y88 : Str) (y89 : Str) (y90 : List Str) (v91 : Value) (W94 : CW), W94.w = w ∧ Le [2, 7, 9] W75 W94 ∧ l = [] ∧ Bx W94 2 g0_ [v0_0_, vI y85] ∧ Ow W94 9 [] [v91] y90 ∧ Bx W94 7 g43 [vS y87, vS y88, vS y89, v91] ∧ K95 y85 y87 y88 y89 y90 = some r) ?_ ?_
  ·rintro _ _ σ ⟨y85, y87, y88, y89, y90, v91, W94, rfl, l94, rfl, b86, o92, b93, hm⟩
   rw [hK95] at hm
   refine Cw.region (Lw.m (vI y65) rfl (Lw.add rfl (Lw.g (vI (w64 (y65 + 1))) rfl (Lw.nil (⟨?_, m77, Nat.lt_succ_self m77, ⟨w64 (y65 + 1), y85, y87, y88, y89, y90, v91, W94, rfl, (l75.trans l94), rfl, b86, o92, b93, hm⟩⟩)))))
   iterate 3 (refine Agree.up rfl ?_)
   refine Agree.ov0 rfl ?_
   iterate 4 (refine Agree.up rfl ?_)
   iterate 1 (refine Agree.up rfl ?_)
   exact Agree.base
  ·refine Cw.block (Cw.seq (Cw.region (Lw.m (ptr (bx g0_)) rfl ?_)))
   obtain ⟨z103, e104, hm⟩ := ob hm
   refine Lw.t rfl (T.call rfl (p79 (K := [0])  (c0 := 2) (x0 := (Vm.l30Rd.mk x0.b y66)) b67 (h0_0.ul a78) rfl e104)) ?_
   rintro _ _ ⟨W105, rfl, l105, ⟨rfl, f105_0⟩⟩
   refine Lw.eq rfl (Lw.nil (Cw.cond (b := ((z103.1 : Int) == (0 : Int))) rfl (fun hc114 => ?_) (fun hc114 => ?_)))
   ·replace hm := bt hm hc114
    refine Cw.draw [9] [(0, 0), (1, 1), (2, 0), (3, 0), (4, 0), (5, 1), (6, 2), (7, 2), (8, 0), (9, 3)] mixed (by kernel_rfl) fun W115 l115 => ?_
    have o120 := ((o57.up l75 rfl).up l105 rfl).up l115 rfl
    have b124 := (b74.up l105 rfl).up l115 rfl
    refine Mw.p rfl rfl (fun _ => R.fa rfl) (Mw.q rfl rfl (fun _ c => R.ld (v := v72) rfl rfl (b124.clc rfl rfl c)) (Mw.p rfl rfl (fun _ => R.mv (v := v57) rfl) (Mw.p rfl rfl (fun _ => R.mv (v := vI y65) rfl) ?_)))
    obtain ⟨u125, e126, hm⟩ := ob hm
    refine Mw.p rfl rfl (fun _ => R.ix (α := Str) o120.rd e126 rfl rfl rfl) (Mw.q rfl rfl (fun _ c => R.ld rfl rfl (cl_cell (o120.rd.at_ e126).1 rfl (o120.rd.at_ e126).str c)) (Mw.t rfl rfl (T.bs 10 [vS u125] (cs := [vS u125]) rfl rfl (bsv rfl)) ?_))
    rintro _ _ ⟨g127, W127, rfl, rfl, l127, b127⟩
    refine ⟨⟨_, rfl, (l127.sub (M := [9]) rfl)⟩, ?_⟩
    obtain ⟨q137, e138, hm⟩ := ob hm
    refine Mw.t rfl rfl (T.app1S (α := Str) (K' := []) (((o73.up l105 rfl).up l115 rfl).up l127 rfl) b127 (rdS _) rfl rfl e138) ?_
    rintro v139 _ ⟨W139, rfl, l139, o139⟩
    refine ⟨⟨_, rfl, ((l127.sub (M := [9]) rfl).trans (l139.sub (M := [9]) rfl))⟩, ?_⟩
    refine Mw.p rfl rfl (fun _ => R.fa rfl) (Mw.lu rfl (T.st (j := 3) (v := v139) ((b124.up l127 rfl).up l139 rfl) rfl rfl o139.oc rfl rfl) ?_)
    rintro _ _ ⟨W149, rfl, l149, b149⟩
    refine Mw.nil (⟨?_, ⟨z103.2, y68, y69, y70, q137, v139, W149, rfl, ((l105.sub rfl).trans ((l115.sub rfl).trans ((l127.sub rfl).trans ((l139.sub rfl).trans (l149.sub rfl))))), rfl, ((((f105_0.up l115 rfl).up l127 rfl).up l139 rfl).up l149 rfl), (o139.up l149 rfl), b149, hm⟩⟩)
    iterate 12 (refine Agree.up rfl ?_)
    exact Agree.refl _
   ·replace hm := bf hm hc114
    refine Cw.skip (⟨?_, ⟨z103.2, y68, y69, y70, y71, v72, W105, rfl, (l105.sub rfl), rfl, f105_0, (o73.up l105 rfl), (b74.up l105 rfl), hm⟩⟩)
    iterate 3 (refine Agree.up rfl ?_)
    exact Agree.refl _
 ·replace hm := bf hm hc84
  refine Cw.exit ?_
  rw [hK76] at hm
  obtain ⟨K169, hK169, hm⟩ := jn_e hm
  refine Cw.join 35 42 [] (fun l w => ∃ (y159 : Int) (y161 : Str) (y162 : Str) (y163 : Str) (y164 : List Str) (v165 : Value) (W168 : CW), W168.w = w ∧ Le [2, 7, 9] W75 W168 ∧ l = [] ∧ Bx W168 2 g0_ [v0_0_, vI y159] ∧ Ow W168 9 [] [v165] y164 ∧ Bx W168 7 g43 [vS y161, vS y162, vS y163, v165] ∧ K169 y159 y161 y162 y163 y164 = some r) ?_ ?_
  ·rintro _ _ σ ⟨y159, y161, y162, y163, y164, v165, W168, rfl, l168, rfl, b160, o166, b167, hm⟩
   rw [hK169] at hm
   have a170 := a78.t l168 rfl
   refine Cw.seq (Cw.region (Lw.r rfl (R.lda (cs := [vS y161, vS y162, vS y163, v165]) b167.cells rfl rfl) (Lw.u (T.sta (vs := [vS y161, vS y162, vS y163, v165]) (((((((((((b1.up l4 rfl).up l11 rfl).up l15 rfl).up l23 rfl).up l28 rfl).up l37 rfl).up l43 rfl).up l50 rfl).up l57 rfl).up l75 rfl).up l168 rfl) rfl rfl (oc_cons rfl (oc_cons rfl (oc_cons rfl (oc_cons o166.oc oc_nil)))) rfl rfl) ?_)))
   rintro _ _ ⟨W176, rfl, l176, b176⟩
   have a177 := a170.t l176 rfl
   refine Lw.nil ?_
   obtain ⟨W185, ew185, l185, o185⟩ := (o166.up l176 rfl).dyeO 31
   have a186 := a177.t l185 rfl
   cases hm
   rw [← ew185]
   exact Cw.ret (retA1 rfl (b176.up l185 rfl) (Res.mk a186 ⟨v165, rfl, o185.s, ((b160.up l176 rfl).up l185 rfl)⟩))
  ·refine Cw.seq (Cw.region (Lw.m (ptr (bx g0_)) rfl ?_))
   obtain ⟨z195, e196, hm⟩ := ob hm
   refine Lw.t rfl (T.call rfl (p79 (K := [0])  (c0 := 2) (x0 := (Vm.l30Rd.mk x0.b y66)) b67 (h0_0.ul a78) rfl e196)) ?_
   rintro _ _ ⟨W197, rfl, l197, ⟨rfl, f197_0⟩⟩
   have b205 := b74.up l197 rfl
   refine Lw.eq rfl (Lw.nil (Cw.cond (b := ((z195.1 : Int) == (0 : Int))) rfl (fun hc206 => ?_) (fun hc206 => ?_)))
   ·replace hm := bt hm hc206
    refine Cw.region (Lw.fa rfl (Lw.r rfl (R.ld (v := v72) rfl rfl (b205.cell rfl)) (Lw.t rfl (T.bs 11 [vS ([97, 110, 110] : Str)] (cs := [vS ([97, 110, 110] : Str)]) rfl rfl (bsv rfl)) ?_)))
    rintro _ _ ⟨g207, W207, rfl, rfl, l207, b207⟩
    obtain ⟨q217, e218, hm⟩ := ob hm
    refine Lw.t rfl (T.app1S (α := Str) (K' := []) ((o73.up l197 rfl).up l207 rfl) b207 (rdS _) rfl rfl e218) ?_
    rintro v219 _ ⟨W219, rfl, l219, o219⟩
    refine Lw.fa rfl (Lw.u (T.st (j := 3) (v := v219) ((b205.up l207 rfl).up l219 rfl) rfl rfl o219.oc rfl rfl) ?_)
    rintro _ _ ⟨W229, rfl, l229, b229⟩
    refine Lw.nil (⟨?_, ⟨z195.2, y68, y69, y70, q217, v219, W229, rfl, ((l197.sub rfl).trans ((l207.sub rfl).trans ((l219.sub rfl).trans (l229.sub rfl)))), rfl, (((f197_0.up l207 rfl).up l219 rfl).up l229 rfl), (o219.up l229 rfl), b229, hm⟩⟩)
    iterate 8 (refine Agree.up rfl ?_)
    exact Agree.refl _
   ·replace hm := bf hm hc206
    refine Cw.skip (⟨?_, ⟨z195.2, y68, y69, y70, y71, v72, W197, rfl, (l197.sub rfl), rfl, f197_0, (o73.up l197 rfl), b205, hm⟩⟩)
    iterate 3 (refine Agree.up rfl ?_)
    exact Agree.refl _

theorem p82 {W : CW} {K : List Nat} {x0 : Vm.l30Rd} {g0_ : Nat} {v0_0_ : Value} {k0 : Nat} {c0 : Nat} {r : Vm.Review × Int} (hB0 : Bx W c0 g0_ [v0_0_, vI x0.p]) (h0_0 : Rd W K [v0_0_] x0.b) (hJ : okJ K [c0] = true) (hm : Vm.spec_l30Review x0 = some r) : CallR Try.prog 82 [ptr (bx g0_)].toArray W.w (Res W [c0] fun W' v => ∃ (u0_3 : Value), v = .agg [vS r.1.Branch, vS r.1.Into, vS r.1.By, u0_3].toArray ∧ Ow W' k0 [] [u0_3] r.1.Yes ∧ Bx W' c0 g0_ [v0_0_, vI r.2]) :=
 CallR.adJ (J := [c0]) (fun c => bif Nat.beq c 0 then 0 else bif Nat.beq c 2 then c0 else bif Nat.beq c 31 then k0 else 0) (c82 (V := W.view K [c0]) (hB0.viewJ 0 hJ) (h0_0.view _) hm) fun _ _ ⟨u0_3, e, f0, f1⟩ => ⟨u0_3, e, f0.one1.backN rfl, Bx.backJ 0 f1 rfl⟩

theorem c46 {V : CW} {x0 : List Byte} {v0_ : Value} {r : Vm.Review × Str} (h0 : Rd V [0] [v0_] x0) (hm : Vm.spec_DrawReviewYes x0 = some r) : CallR Try.prog 46 [v0_].toArray V.w (Res V LL fun Wf v => ∃ (u0_3 : Value), v = .tuple [.agg [vS r.1.Branch, vS r.1.Into, vS r.1.By, u0_3].toArray, vS r.2].toArray ∧ OwS Wf LL [] [u0_3] r.1.Yes) := by
 unfold Vm.spec_DrawReviewYes at hm
 obtain ⟨W0, hW0⟩ : ∃ W, W = V := ⟨V, rfl⟩
 subst hW0
 refine CallR.of Try.func46 rfl rfl rfl rfl (Cw.seq (Cw.region (Lw.t rfl (T.alloc 2 (cs := [vS ([] : Str), vS ([] : Str), vS ([] : Str), .slice none 0 0]) rfl) ?_)))
 rintro _ _ ⟨g1, W1, rfl, rfl, l1, b1⟩
 have a2 := l1.o
 refine Lw.g (vS ([] : Str)) rfl (Lw.nil (Cw.seq (Cw.region (Lw.m v0_ rfl ?_))))
 obtain ⟨z4, e5, hm⟩ := ob hm
 refine Lw.t rfl (T.call rfl (p58 (K := [0]) (k0 := 3) (h0.ul a2) e5)) ?_
 rintro _ _ ⟨W6, rfl, l6, ⟨g0_6, v0_0_6, rfl, f6_0, f6_1⟩⟩
 have s7 := f6_1.sub (M := [0]) rfl
 have a8 := a2.n l6
 refine Lw.g (ptr (bx g0_6)) rfl (Lw.nil (Cw.seq (Cw.region (Lw.m (ptr (bx g0_6)) rfl ?_))))
 obtain ⟨z10, e11, hm⟩ := ob hm
 refine Lw.t rfl (T.call rfl (p82 (K := [0]) (k0 := 4) (c0 := 3) (x0 := z4) f6_0 s7 rfl e11)) ?_
 rintro _ _ ⟨W12, rfl, l12, ⟨v0_3_12, rfl, f12_0, f12_1⟩⟩
 have a13 := l12.s rfl
 refine Lw.t rfl (T.alloc 5 (cs := [vS ([] : Str), vS ([] : Str), vS ([] : Str), .slice none 0 0]) rfl) ?_
 rintro _ _ ⟨g15, W15, rfl, rfl, l15, b15⟩
 have a16 := l15.o
 refine Lw.u (T.sta (vs := [vS z10.1.Branch, vS z10.1.Into, vS z10.1.By, v0_3_12]) b15 rfl rfl (oc_cons rfl (oc_cons rfl (oc_cons rfl (oc_cons (f12_0.up l15 rfl).oc oc_nil)))) rfl rfl) ?_
 rintro _ _ ⟨W20, rfl, l20, b20⟩
 have a21 := l20.s rfl
 refine Lw.nil (Cw.seq (Cw.draw [3] [(0, 1), (1, 0), (2, 2), (3, 2), (4, 3), (5, 0)] mixed (by kernel_rfl) fun W25 l25 => ?_))
 have a26 := l25.o
 refine Mw.q rfl rfl (fun _ c => R.lda (cs := [vS z10.1.Branch, vS z10.1.Into, vS z10.1.By, v0_3_12]) ((b20.up l25 rfl).clcs rfl c) rfl rfl) (Mw.p rfl rfl (fun _ => R.mv (v := ptr (bx g0_6)) rfl) (Mw.t rfl rfl (T.bsS (α := Str) (xs := [([97, 110, 110] : Str), ([98, 111, 98] : Str), ([122, 111, 101] : Str), ([] : Str)]) 6 [] (W := W25) [vS ([97, 110, 110] : Str), vS ([98, 111, 98] : Str), vS ([122, 111, 101] : Str), vS ([] : Str)] (Each.cons ((rdS _)) (Each.cons ((rdS _)) (Each.cons ((rdS _)) (Each.cons ((rdS _)) Each.nil)))) rfl) ?_))
 rintro v31 _ ⟨W31, rfl, l31, o31⟩
 have a32 := l31.o
 refine ⟨⟨_, rfl, (l31.sub (M := [3]) rfl)⟩, ?_⟩
 obtain ⟨z38, e39, hm⟩ := ob hm
 refine Mw.t rfl rfl (T.call rfl (p83 (K := [0, 6])  (c0 := 3) (x0 := (Vm.l30Rd.mk z4.b z10.2)) ((((f12_1.up l15 rfl).up l20 rfl).up l25 rfl).up l31 rfl) ((s7.ul ((((a13.trans a16).trans a21).trans a26).trans a32)).sub (M := [0, 6]) rfl) (o31.rd.sub (M := [0, 6]) rfl) rfl e39)) ?_
 rintro _ _ ⟨W40, rfl, l40, ⟨rfl, f40_0⟩⟩
 have a41 := (((((a8.trans a13).trans a16).trans a21).trans a26).trans a32).t l40 rfl
 have o42 := ((((f12_0.up l15 rfl).up l20 rfl).up l25 rfl).up l31 rfl).up l40 rfl
 refine ⟨⟨_, rfl, ((l31.sub (M := [3]) rfl).trans (l40.sub (M := [3]) rfl))⟩, ?_⟩
 refine Mw.lu rfl (T.sta (vs := [vS z10.1.Branch, vS z10.1.Into, vS z10.1.By, v0_3_12]) (((((((b1.up l6 rfl).up l12 rfl).up l15 rfl).up l20 rfl).up l25 rfl).up l31 rfl).up l40 rfl) rfl rfl (oc_cons rfl (oc_cons rfl (oc_cons rfl (oc_cons o42.oc oc_nil)))) rfl rfl) ?_
 rintro _ _ ⟨W46, rfl, l46, b46⟩
 have a47 := a41.t l46 rfl
 refine Mw.p rfl rfl (fun _ => R.as (v := vS z38.1) rfl) (Mw.nil ?_)
 cases hm
 exact Cw.ret (retA2 rfl b46 rfl (Res.mk a47 ⟨v0_3_12, rfl, (o42.up l46 rfl).s.sub rfl rfl⟩))

theorem p46 {W : CW} {K : List Nat} {x0 : List Byte} {v0_ : Value} {k0 : Nat} {r : Vm.Review × Str} (h0 : Rd W K [v0_] x0) (hm : Vm.spec_DrawReviewYes x0 = some r) : CallR Try.prog 46 [v0_].toArray W.w (Res W [] fun W' v => ∃ (u0_3 : Value), v = .tuple [.agg [vS r.1.Branch, vS r.1.Into, vS r.1.By, u0_3].toArray, vS r.2].toArray ∧ Ow W' k0 [] [u0_3] r.1.Yes) :=
 (c46 (V := W.view K []) (h0.view _) hm).ad (fk k0) fun _ _ ⟨u0_3, e, f0⟩ => ⟨u0_3, e, f0.back (fk_LL _)⟩

theorem c103 {V : CW} {x0 : Byte} {r : Bool}  (hm : Vm.impl_wordByte x0 = some r) : CallR Try.prog 103 [.int .u8 (UInt8.toNat x0 : Int)].toArray V.w (Res V LL fun Wf v => v = vB r) := by
 unfold Vm.impl_wordByte at hm
 obtain ⟨W0, hW0⟩ : ∃ W, W = V := ⟨V, rfl⟩
 subst hW0
 refine CallR.of Try.func103 rfl rfl rfl rfl (Cw.seq (Cw.region (Lw.g (vB false) rfl (Lw.nil ?_))))
 obtain ⟨K3, hK3, hm⟩ := jn_e hm
 refine Cw.join 3 16 [2] (fun l w => ∃ (y1 : Bool) (W2 : CW), W2.w = w ∧ Le [] W0 W2 ∧ l = [vB y1] ∧ K3 y1 = some r) ?_ ?_
 ·rintro _ _ σ ⟨y1, W2, rfl, l2, rfl, hm⟩
  rw [hK3] at hm
  have a4 := l2.o
  cases hm
  exact Cw.ret (ret1 rfl (Res.mk a4 rfl))
 ·refine Cw.region (Lw.m (.int .u8 (UInt8.toNat x0 : Int)) rfl (Lw.ge rfl (Lw.m (vB (decide ((97 : Int) ≤ ((UInt8.toNat x0 : Int) : Int)))) rfl (bsplit (decide ((97 : Int) ≤ ((UInt8.toNat x0 : Int) : Int))) (fun hc5 => ?_) (fun hc5 => ?_)))))
  ·replace hm := bt hm hc5
   refine Lw.want' hc5 rfl rfl rfl rfl (Lw.m (.int .u8 (UInt8.toNat x0 : Int)) rfl (Lw.want' hc5 rfl rfl rfl rfl (Lw.le rfl (Lw.p hc5 (vB (decide (((UInt8.toNat x0 : Int) : Int) ≤ (122 : Int)))) rfl (Lw.m (vB (decide (((UInt8.toNat x0 : Int) : Int) ≤ (122 : Int)))) rfl (bsplit (decide (((UInt8.toNat x0 : Int) : Int) ≤ (122 : Int))) (fun hc6 => ?_) (fun hc6 => ?_)))))))
   ·replace hm := bt hm hc6
    refine Lw.pass' hc6 rfl rfl rfl rfl rfl rfl rfl (Lw.pass' hc6 rfl rfl rfl rfl rfl rfl rfl (Lw.pass' hc6 rfl rfl rfl rfl rfl rfl rfl (Lw.passU rfl rfl rfl rfl rfl rfl (Lw.passU rfl rfl rfl rfl rfl rfl (Lw.pass' hc6 rfl rfl rfl rfl rfl rfl rfl (Lw.p hc6 (vB true) rfl (Lw.g (vB true) rfl (Lw.nil (⟨?_, ⟨true, W0, rfl, Le.refl _ _, rfl, hm⟩⟩)))))))))
    iterate 15 (refine Agree.up rfl ?_)
    exact Agree.refl _
   ·replace hm := bf hm hc6
    refine Lw.want' hc6 rfl rfl rfl rfl (Lw.m (.int .u8 (UInt8.toNat x0 : Int)) rfl (Lw.want' hc6 rfl rfl rfl rfl (Lw.ge rfl (Lw.want' hc6 rfl rfl rfl rfl (Lw.m (vB (decide ((48 : Int) ≤ ((UInt8.toNat x0 : Int) : Int)))) rfl (bsplit (decide ((48 : Int) ≤ ((UInt8.toNat x0 : Int) : Int))) (fun hc7 => ?_) (fun hc7 => ?_)))))))
    ·replace hm := bt hm hc7
     refine Lw.want' hc7 rfl rfl rfl rfl (Lw.m (.int .u8 (UInt8.toNat x0 : Int)) rfl (Lw.want' hc7 rfl rfl rfl rfl (Lw.le rfl (Lw.want' hc6 rfl rfl rfl rfl (Lw.p hc7 (vB (decide (((UInt8.toNat x0 : Int) : Int) ≤ (57 : Int)))) rfl (Lw.p hc6 (vB (decide (((UInt8.toNat x0 : Int) : Int) ≤ (57 : Int)))) rfl (Lw.g (vB (decide (((UInt8.toNat x0 : Int) : Int) ≤ (57 : Int)))) rfl (Lw.nil (⟨?_, ⟨decide (((UInt8.toNat x0 : Int) : Int) ≤ (57 : Int)), W0, rfl, Le.refl _ _, rfl, hm⟩⟩)))))))))
     iterate 15 (refine Agree.up rfl ?_)
     exact Agree.refl _
    ·replace hm := bf hm hc7
     refine Lw.pass' hc7 rfl rfl rfl rfl rfl rfl rfl (Lw.pass' hc7 rfl rfl rfl rfl rfl rfl rfl (Lw.want' hc6 rfl rfl rfl rfl (Lw.p hc7 (vB false) rfl (Lw.p hc6 (vB false) rfl (Lw.g (vB false) rfl (Lw.nil (⟨?_, ⟨false, W0, rfl, Le.refl _ _, rfl, hm⟩⟩)))))))
     iterate 15 (refine Agree.up rfl ?_)
     exact Agree.refl _
  ·replace hm := bf hm hc5
   refine Lw.pass' hc5 rfl rfl rfl rfl rfl rfl rfl (Lw.pass' hc5 rfl rfl rfl rfl rfl rfl rfl (Lw.p hc5 (vB false) rfl (Lw.m (vB false) rfl (Lw.want' rfl rfl rfl rfl rfl (Lw.m (.int .u8 (UInt8.toNat x0 : Int)) rfl (Lw.want' rfl rfl rfl rfl rfl (Lw.ge rfl (Lw.want' rfl rfl rfl rfl rfl (Lw.m (vB (decide ((48 : Int) ≤ ((UInt8.toNat x0 : Int) : Int)))) rfl (bsplit (decide ((48 : Int) ≤ ((UInt8.toNat x0 : Int) : Int))) (fun hc8 => ?_) (fun hc8 => ?_)))))))))))
   ·replace hm := bt hm hc8
    refine Lw.want' hc8 rfl rfl rfl rfl (Lw.m (.int .u8 (UInt8.toNat x0 : Int)) rfl (Lw.want' hc8 rfl rfl rfl rfl (Lw.le rfl (Lw.want' rfl rfl rfl rfl rfl (Lw.p hc8 (vB (decide (((UInt8.toNat x0 : Int) : Int) ≤ (57 : Int)))) rfl (Lw.p rfl (vB (decide (((UInt8.toNat x0 : Int) : Int) ≤ (57 : Int)))) rfl (Lw.g (vB (decide (((UInt8.toNat x0 : Int) : Int) ≤ (57 : Int)))) rfl (Lw.nil (⟨?_, ⟨decide (((UInt8.toNat x0 : Int) : Int) ≤ (57 : Int)), W0, rfl, Le.refl _ _, rfl, hm⟩⟩)))))))))
    iterate 15 (refine Agree.up rfl ?_)
    exact Agree.refl _
   ·replace hm := bf hm hc8
    refine Lw.pass' hc8 rfl rfl rfl rfl rfl rfl rfl (Lw.pass' hc8 rfl rfl rfl rfl rfl rfl rfl (Lw.want' rfl rfl rfl rfl rfl (Lw.p hc8 (vB false) rfl (Lw.p rfl (vB false) rfl (Lw.g (vB false) rfl (Lw.nil (⟨?_, ⟨false, W0, rfl, Le.refl _ _, rfl, hm⟩⟩)))))))
    iterate 15 (refine Agree.up rfl ?_)
    exact Agree.refl _

theorem p103 {W : CW} {K : List Nat} {x0 : Byte} {r : Bool}  (hm : Vm.impl_wordByte x0 = some r) : CallR Try.prog 103 [.int .u8 (UInt8.toNat x0 : Int)].toArray W.w (Res W [] fun W' v => v = vB r) :=
 (c103 (V := W.view K [])  hm).ad (fk 0) fun _ _ e => e

theorem c87 {V : CW} {x0 : Str} {r : Bool}  (hm : Vm.impl_nameOk x0 = some r) : CallR Try.prog 87 [vS x0].toArray V.w (Res V LL fun Wf v => v = vB r) := by
 unfold Vm.impl_nameOk at hm
 obtain ⟨W0, hW0⟩ : ∃ W, W = V := ⟨V, rfl⟩
 subst hW0
 refine CallR.of Try.func87 rfl rfl rfl rfl (Cw.seq (Cw.region (Lw.g (vB false) rfl (Lw.nil (Cw.seq (Cw.seq (Cw.region (Lw.m (vS x0) rfl (Lw.r rfl (R.lenS rfl) ?_)))))))))
 obtain ⟨z1, e2, hm⟩ := ob hm
 refine Lw.t rfl (T.call rfl (p74 (K := [0])   e2)) ?_
 rintro _ _ ⟨W3, rfl, l3, rfl⟩
 have a4 := l3.o
 refine Lw.r rfl (R.not rfl) (Lw.nil (Cw.cond (b := (!z1)) rfl (fun hc5 => ?_) (fun hc5 => ?_)))
 ·replace hm := bt hm hc5
  refine Cw.seq (Cw.region (Lw.g (vB false) rfl (Lw.nil ?_)))
  cases hm
  exact Cw.ret (ret1 rfl (Res.mk a4 rfl))
 ·replace hm := bf hm hc5
  refine Cw.skip (Cw.seq (Cw.seq (Cw.region (Lw.g (vI 0) rfl (Lw.nil (Cw.block ?_))))))
  obtain ⟨K9, hK9, hm⟩ := jn_e hm
  refine Cw.loop 8 18 [2, 3] (fun m l w => ∃ (y6 : Bool) (y7 : Int) (W8 : CW), W8.w = w ∧ Le [] W3 W8 ∧ l = [vB y6, vI y7] ∧ Vm.impl_nameOk_l1 x0 K9 m y6 y7 = some r) (((x0.length : Int) - 0).toNat + 1) ⟨false, 0, W3, rfl, Le.refl _ _, rfl, hm⟩ ?_
  rintro m10 _ _ σ ⟨y6, y7, W8, rfl, l8, rfl, hm⟩
  obtain _ | m10 := m10
  ·cases hm
  unfold Vm.impl_nameOk_l1 at hm
  have a11 := a4.n l8
  refine Cw.seq (Cw.seq (Cw.region (Lw.m (vI y7) rfl (Lw.m (vS x0) rfl (Lw.r rfl (R.lenS rfl) (Lw.lt rfl (Lw.nil (Cw.cond (b := decide ((y7 : Int) < ((x0.length : Int) : Int))) rfl (fun hc12 => ?_) (fun hc12 => ?_)))))))))
  ·replace hm := bt hm hc12
   refine Cw.skip (Cw.seq (Cw.block (Cw.seq (Cw.region (Lw.m (vS x0) rfl (Lw.m (vI y7) rfl ?_))))))
   obtain ⟨u13, e14, hm⟩ := ob hm
   refine Lw.r rfl (R.chm e14 rfl rfl) ?_
   obtain ⟨z15, e16, hm⟩ := ob hm
   refine Lw.t rfl (T.call rfl (p103 (K := [0])   e16)) ?_
   rintro _ _ ⟨W17, rfl, l17, rfl⟩
   have a18 := a11.n l17
   refine Lw.r rfl (R.not rfl) (Lw.nil (Cw.cond (b := (!z15)) rfl (fun hc19 => ?_) (fun hc19 => ?_)))
   ·replace hm := bt hm hc19
    refine Cw.seq (Cw.region (Lw.g (vB false) rfl (Lw.nil ?_)))
    cases hm
    exact Cw.ret (ret1 rfl (Res.mk a18 rfl))
   ·replace hm := bf hm hc19
    refine Cw.skip (Cw.region (Lw.m (vI y7) rfl (Lw.add rfl (Lw.g (vI (w64 (y7 + 1))) rfl (Lw.nil (⟨?_, m10, Nat.lt_succ_self m10, ⟨y6, w64 (y7 + 1), W17, rfl, (l8.trans l17), rfl, hm⟩⟩))))))
    iterate 12 (refine Agree.up rfl ?_)
    iterate 2 (refine Agree.up rfl ?_)
    exact Agree.base
  ·replace hm := bf hm hc12
   refine Cw.exit ?_
   rw [hK9] at hm
   refine Cw.seq (Cw.region (Lw.g (vB true) rfl (Lw.nil ?_)))
   cases hm
   exact Cw.ret (ret1 rfl (Res.mk a11 rfl))

theorem p87 {W : CW} {K : List Nat} {x0 : Str} {r : Bool}  (hm : Vm.impl_nameOk x0 = some r) : CallR Try.prog 87 [vS x0].toArray W.w (Res W [] fun W' v => v = vB r) :=
 (c87 (V := W.view K [])  hm).ad (fk 0) fun _ _ e => e

theorem c88 {V : CW} {x0 : List Str} {v0_ : Value} {r : Bool} (h0 : Rd V [0] [v0_] x0) (hm : Vm.impl_namesOk x0 = some r) : CallR Try.prog 88 [v0_].toArray V.w (Res V LL fun Wf v => v = vB r) := by
 unfold Vm.impl_namesOk at hm
 obtain ⟨W0, hW0⟩ : ∃ W, W = V := ⟨V, rfl⟩
 subst hW0
 refine CallR.of Try.func88 rfl rfl rfl rfl (Cw.seq (Cw.region (Lw.g (vB false) rfl (Lw.nil (Cw.seq (Cw.seq (Cw.region (Lw.m v0_ rfl (Lw.ln x0 h0 rfl (Lw.m (vI 0) rfl (Lw.nil (Cw.block ?_))))))))))))
 obtain ⟨K6, hK6, hm⟩ := jn_e hm
 refine Cw.loop 7 28 [2, 3, 4, 7] (fun m l w => ∃ (y1 : Bool) (y4 : Int) (j2 j3 : Value) (W5 : CW), W5.w = w ∧ Le [] W0 W5 ∧ l = [vB y1, j2, j3, vI y4] ∧ Vm.impl_namesOk_l1 x0 K6 m y1 y4 = some r) (((x0.length : Int) - 0).toNat + 1) ⟨false, 0, undef, undef, W0, rfl, Le.refl _ _, rfl, hm⟩ ?_
 rintro m7 _ _ σ ⟨y1, y4, j2, j3, W5, rfl, l5, rfl, hm⟩
 obtain _ | m7 := m7
 ·cases hm
 unfold Vm.impl_namesOk_l1 at hm
 have a8 := l5.o
 refine Cw.seq (Cw.region (Lw.lt rfl (Lw.nil (Cw.seq (Cw.cond (b := decide ((y4 : Int) < ((x0.length : Int) : Int))) rfl (fun hc9 => ?_) (fun hc9 => ?_))))))
 ·replace hm := bt hm hc9
  refine Cw.skip (Cw.seq (Cw.block (Cw.seq (Cw.region (Lw.m (vI y4) rfl ?_)))))
  obtain ⟨u10, e11, hm⟩ := ob hm
  refine Lw.r rfl (R.ix (α := Str) (h0.ul a8) e11 rfl rfl rfl) (Lw.r rfl (R.ld rfl rfl ((h0.ul a8).at_ e11).str) (Lw.g (vI y4) rfl (Lw.g (vS u10) rfl (Lw.nil ?_))))
  obtain ⟨K15, hK15, hm⟩ := jn_e hm
  refine Cw.join 12 27 [27] (fun l w => ∃ (y13 : Bool) (W14 : CW), W14.w = w ∧ Le [] W5 W14 ∧ l = [vB y13] ∧ K15 y13 = some r) ?_ ?_
  ·rintro _ _ σ ⟨y13, W14, rfl, l14, rfl, hm⟩
   rw [hK15] at hm
   have a16 := a8.n l14
   refine Cw.cond (b := y13) rfl (fun hc17 => ?_) (fun hc17 => ?_)
   ·replace hm := bt hm hc17
    refine Cw.seq (Cw.region (Lw.g (vB false) rfl (Lw.nil ?_)))
    cases hm
    exact Cw.ret (ret1 rfl (Res.mk a16 rfl))
   ·replace hm := bf hm hc17
    refine Cw.skip (Cw.region (Lw.add rfl (Lw.m (vI (w64 (y4 + 1))) rfl (Lw.nil (⟨?_, m7, Nat.lt_succ_self m7, ⟨y1, w64 (y4 + 1), vI y4, vS u10, W14, rfl, (l5.trans l14), rfl, hm⟩⟩)))))
    iterate 2 (refine Agree.up rfl ?_)
    iterate 1 (refine Agree.up rfl ?_)
    refine Agree.ov0 rfl ?_
    iterate 6 (refine Agree.up rfl ?_)
    iterate 4 (refine Agree.up rfl ?_)
    exact Agree.base
  ·refine Cw.region (Lw.m (vS u10) rfl ?_)
   obtain ⟨z18, e19, hm⟩ := ob hm
   refine Lw.t rfl (T.call rfl (p87 (K := [0])   e19)) ?_
   rintro _ _ ⟨W20, rfl, l20, rfl⟩
   have a21 := a8.n l20
   refine Lw.r rfl (R.not rfl) (Lw.m (vB (!z18)) rfl (bsplit (!z18) (fun hc22 => ?_) (fun hc22 => ?_)))
   ·replace hm := bt hm hc22
    refine Lw.pass' hc22 rfl rfl rfl rfl rfl rfl rfl (Lw.pass' hc22 rfl rfl rfl rfl rfl rfl rfl (Lw.pass' hc22 rfl rfl rfl rfl rfl rfl rfl (Lw.passU rfl rfl rfl rfl rfl rfl (Lw.passU rfl rfl rfl rfl rfl rfl (Lw.passU rfl rfl rfl rfl rfl rfl (Lw.passU rfl rfl rfl rfl rfl rfl (Lw.passU rfl rfl rfl rfl rfl rfl (Lw.passU rfl rfl rfl rfl rfl rfl (Lw.passU rfl rfl rfl rfl rfl rfl (Lw.pass' hc22 rfl rfl rfl rfl rfl rfl rfl (Lw.p hc22 (vB true) rfl (Lw.nil (⟨?_, ⟨true, W20, rfl, l20, rfl, hm⟩⟩)))))))))))))
    iterate 16 (refine Agree.up rfl ?_)
    exact Agree.refl _
   ·replace hm := bf hm hc22
    refine Lw.want' hc22 rfl rfl rfl rfl (Lw.m (vI y4) rfl (Lw.want' hc22 rfl rfl rfl rfl (Lw.gt rfl (Lw.want' hc22 rfl rfl rfl rfl (Lw.m (vB (decide ((0 : Int) < (y4 : Int)))) rfl (bsplit (decide ((0 : Int) < (y4 : Int))) (fun hc23 => ?_) (fun hc23 => ?_)))))))
    ·replace hm := bt hm hc23
     refine Lw.want' hc23 rfl rfl rfl rfl (Lw.m v0_ rfl (Lw.want' hc23 rfl rfl rfl rfl (Lw.m (vI y4) rfl (Lw.want' hc23 rfl rfl rfl rfl (Lw.sub rfl (Lw.want' hc23 rfl rfl rfl rfl ?_))))))
     obtain ⟨u24, e25, hm⟩ := ob hm
     refine Lw.r rfl (R.ix (α := Str) (h0.ul a21) e25 rfl rfl rfl) (Lw.want' hc23 rfl rfl rfl rfl (Lw.r rfl (R.ld rfl rfl ((h0.ul a21).at_ e25).str) (Lw.want' hc23 rfl rfl rfl rfl (Lw.m (vS u10) rfl (Lw.want' hc23 rfl rfl rfl rfl (Lw.r rfl (R.sge rfl rfl) (Lw.want' hc22 rfl rfl rfl rfl (Lw.p hc23 (vB (!Op.bytesLess u24 u10)) rfl (Lw.p hc22 (vB (!Op.bytesLess u24 u10)) rfl (Lw.nil (⟨?_, ⟨(!Op.bytesLess u24 u10), W20, rfl, l20, rfl, hm⟩⟩)))))))))))
     iterate 16 (refine Agree.up rfl ?_)
     exact Agree.refl _
    ·replace hm := bf hm hc23
     refine Lw.pass' hc23 rfl rfl rfl rfl rfl rfl rfl (Lw.pass' hc23 rfl rfl rfl rfl rfl rfl rfl (Lw.pass' hc23 rfl rfl rfl rfl rfl rfl rfl (Lw.pass' hc23 rfl rfl rfl rfl rfl rfl rfl (Lw.pass' hc23 rfl rfl rfl rfl rfl rfl rfl (Lw.pass' hc23 rfl rfl rfl rfl rfl rfl rfl (Lw.pass' hc23 rfl rfl rfl rfl rfl rfl rfl (Lw.want' hc22 rfl rfl rfl rfl (Lw.p hc23 (vB false) rfl (Lw.p hc22 (vB false) rfl (Lw.nil (⟨?_, ⟨false, W20, rfl, l20, rfl, hm⟩⟩)))))))))))
     iterate 16 (refine Agree.up rfl ?_)
     exact Agree.refl _
 ·replace hm := bf hm hc9
  refine Cw.exit ?_
  rw [hK6] at hm
  refine Cw.seq (Cw.region (Lw.g (vB true) rfl (Lw.nil ?_)))
  cases hm
  exact Cw.ret (ret1 rfl (Res.mk a8 rfl))

theorem p88 {W : CW} {K : List Nat} {x0 : List Str} {v0_ : Value} {r : Bool} (h0 : Rd W K [v0_] x0) (hm : Vm.impl_namesOk x0 = some r) : CallR Try.prog 88 [v0_].toArray W.w (Res W [] fun W' v => v = vB r) :=
 (c88 (V := W.view K []) (h0.view _) hm).ad (fk 0) fun _ _ e => e

theorem c50 {V : CW} {x0 : Vm.Review} {v0_3_ : Value} {r : Bool} (h0 : Rd V [0] [vS x0.Branch, vS x0.Into, vS x0.By, v0_3_] x0) (hm : Vm.impl_ReviewOk x0 = some r) : CallR Try.prog 50 [.agg [vS x0.Branch, vS x0.Into, vS x0.By, v0_3_].toArray].toArray V.w (Res V LL fun Wf v => v = vB r) := by
 unfold Vm.impl_ReviewOk at hm
 obtain ⟨w0_0, he0, h0_3⟩ := Review.split h0
 simp only [List.cons.injEq, and_true, true_and] at he0
 obtain rfl := he0
 obtain ⟨W0, hW0⟩ : ∃ W, W = V := ⟨V, rfl⟩
 subst hW0
 refine CallR.of Try.func50 rfl rfl rfl rfl (Cw.seq (Cw.region (Lw.t rfl (T.box 2 (v := .agg [vS x0.Branch, vS x0.Into, vS x0.By, v0_3_].toArray) (cs := [vS x0.Branch, vS x0.Into, vS x0.By, v0_3_]) rfl rfl) ?_)))
 rintro _ _ ⟨g1, W1, rfl, rfl, l1, b1⟩
 have a2 := l1.o
 refine Lw.g (vB false) rfl (Lw.nil ?_)
 obtain ⟨K5, hK5, hm⟩ := jn_e hm
 refine Cw.join 3 33 [2] (fun l w => ∃ (y3 : Bool) (W4 : CW), W4.w = w ∧ Le [] W1 W4 ∧ l = [vB y3] ∧ K5 y3 = some r) ?_ ?_
 ·rintro _ _ σ ⟨y3, W4, rfl, l4, rfl, hm⟩
  rw [hK5] at hm
  have a6 := a2.n l4
  cases hm
  exact Cw.ret (ret1 rfl (Res.mk a6 rfl))
 ·refine Cw.region (Lw.fa rfl (Lw.r rfl (R.ld (v := vS x0.Branch) rfl rfl (b1.cell rfl)) ?_))
  obtain ⟨z8, e9, hm⟩ := ob hm
  refine Lw.t rfl (T.call rfl (p87 (K := [0])   e9)) ?_
  rintro _ _ ⟨W10, rfl, l10, rfl⟩
  have a11 := a2.n l10
  refine Lw.m (vB z8) rfl (bsplit z8 (fun hc13 => ?_) (fun hc13 => ?_))
  ·replace hm := bt hm hc13
   refine Lw.want' hc13 rfl rfl rfl rfl (Lw.fa rfl (Lw.want' hc13 rfl rfl rfl rfl (Lw.r rfl (R.ld (v := vS x0.Into) rfl rfl ((b1.up l10 rfl).cell rfl)) (Lw.want' hc13 rfl rfl rfl rfl ?_))))
   obtain ⟨z14, e15, hm⟩ := ob hm
   refine Lw.t rfl (T.call rfl (p87 (K := [0])   e15)) ?_
   rintro _ _ ⟨W16, rfl, l16, rfl⟩
   have a17 := a11.n l16
   have b18 := (b1.up l10 rfl).up l16 rfl
   refine Lw.p hc13 (vB z14) rfl (Lw.m (vB z14) rfl (bsplit z14 (fun hc19 => ?_) (fun hc19 => ?_)))
   ·replace hm := bt hm hc19
    refine Lw.want' hc19 rfl rfl rfl rfl (Lw.fa rfl (Lw.want' hc19 rfl rfl rfl rfl (Lw.r rfl (R.ld (v := vS x0.By) rfl rfl (b18.cell rfl)) (Lw.want' hc19 rfl rfl rfl rfl ?_))))
    obtain ⟨z20, e21, hm⟩ := ob hm
    refine Lw.t rfl (T.call rfl (p87 (K := [0])   e21)) ?_
    rintro _ _ ⟨W22, rfl, l22, rfl⟩
    have a23 := a17.n l22
    have b24 := b18.up l22 rfl
    refine Lw.p hc19 (vB z20) rfl (Lw.m (vB z20) rfl (bsplit z20 (fun hc25 => ?_) (fun hc25 => ?_)))
    ·replace hm := bt hm hc25
     refine Lw.want' hc25 rfl rfl rfl rfl (Lw.fa rfl (Lw.want' hc25 rfl rfl rfl rfl (Lw.r rfl (R.ld (v := vS x0.Branch) rfl rfl (b24.cell rfl)) (Lw.want' hc25 rfl rfl rfl rfl (Lw.fa rfl (Lw.want' hc25 rfl rfl rfl rfl (Lw.r rfl (R.ld (v := vS x0.Into) rfl rfl (b24.cell rfl)) (Lw.want' hc25 rfl rfl rfl rfl (Lw.sne rfl (Lw.p hc25 (vB (x0.Branch != x0.Into)) rfl (Lw.m (vB (x0.Branch != x0.Into)) rfl (bsplit (x0.Branch != x0.Into) (fun hc26 => ?_) (fun hc26 => ?_)))))))))))))
     ·replace hm := bt hm hc26
      refine Lw.want' hc26 rfl rfl rfl rfl (Lw.fa rfl (Lw.want' hc26 rfl rfl rfl rfl (Lw.r rfl (R.ld (v := v0_3_) rfl rfl (b24.cell rfl)) (Lw.want' hc26 rfl rfl rfl rfl (Lw.ln x0.Yes (h0_3.ul a23) rfl (Lw.want' hc26 rfl rfl rfl rfl (Lw.le rfl (Lw.p hc26 (vB (decide (((x0.Yes.length : Int) : Int) ≤ (5 : Int)))) rfl (Lw.m (vB (decide (((x0.Yes.length : Int) : Int) ≤ (5 : Int)))) rfl (bsplit (decide (((x0.Yes.length : Int) : Int) ≤ (5 : Int))) (fun hc28 => ?_) (fun hc28 => ?_)))))))))))
      ·replace hm := bt hm hc28
       refine Lw.want' hc28 rfl rfl rfl rfl (Lw.fa rfl (Lw.want' hc28 rfl rfl rfl rfl (Lw.r rfl (R.ld (v := v0_3_) rfl rfl (b24.cell rfl)) (Lw.want' hc28 rfl rfl rfl rfl ?_))))
       obtain ⟨z29, e30, hm⟩ := ob hm
       refine Lw.t rfl (T.call rfl (p88 (K := [0])  (h0_3.ul a23) e30)) ?_
       rintro _ _ ⟨W31, rfl, l31, rfl⟩
       refine Lw.p hc28 (vB z29) rfl (Lw.g (vB z29) rfl (Lw.nil (⟨?_, ⟨z29, W31, rfl, (l10.trans (l16.trans (l22.trans l31))), rfl, hm⟩⟩)))
       iterate 32 (refine Agree.up rfl ?_)
       exact Agree.refl _
      ·replace hm := bf hm hc28
       refine Lw.pass' hc28 rfl rfl rfl rfl rfl rfl rfl (Lw.pass' hc28 rfl rfl rfl rfl rfl rfl rfl (Lw.pass' hc28 rfl rfl rfl rfl rfl rfl rfl (Lw.p hc28 (vB false) rfl (Lw.g (vB false) rfl (Lw.nil (⟨?_, ⟨false, W22, rfl, (l10.trans (l16.trans l22)), rfl, hm⟩⟩))))))
       iterate 32 (refine Agree.up rfl ?_)
       exact Agree.refl _
     ·replace hm := bf hm hc26
      refine Lw.pass' hc26 rfl rfl rfl rfl rfl rfl rfl (Lw.pass' hc26 rfl rfl rfl rfl rfl rfl rfl (Lw.pass' hc26 rfl rfl rfl rfl rfl rfl rfl (Lw.pass' hc26 rfl rfl rfl rfl rfl rfl rfl (Lw.p hc26 (vB false) rfl (Lw.m (vB false) rfl (Lw.pass' rfl rfl rfl rfl rfl rfl rfl rfl (Lw.pass' rfl rfl rfl rfl rfl rfl rfl rfl (Lw.pass' rfl rfl rfl rfl rfl rfl rfl rfl (Lw.p rfl (vB false) rfl (Lw.g (vB false) rfl (Lw.nil (⟨?_, ⟨false, W22, rfl, (l10.trans (l16.trans l22)), rfl, hm⟩⟩))))))))))))
      iterate 32 (refine Agree.up rfl ?_)
      exact Agree.refl _
    ·replace hm := bf hm hc25
     refine Lw.pass' hc25 rfl rfl rfl rfl rfl rfl rfl (Lw.pass' hc25 rfl rfl rfl rfl rfl rfl rfl (Lw.pass' hc25 rfl rfl rfl rfl rfl rfl rfl (Lw.pass' hc25 rfl rfl rfl rfl rfl rfl rfl (Lw.pass' hc25 rfl rfl rfl rfl rfl rfl rfl (Lw.p hc25 (vB false) rfl (Lw.m (vB false) rfl (Lw.pass' rfl rfl rfl rfl rfl rfl rfl rfl (Lw.pass' rfl rfl rfl rfl rfl rfl rfl rfl (Lw.pass' rfl rfl rfl rfl rfl rfl rfl rfl (Lw.pass' rfl rfl rfl rfl rfl rfl rfl rfl (Lw.p rfl (vB false) rfl (Lw.m (vB false) rfl (Lw.pass' rfl rfl rfl rfl rfl rfl rfl rfl (Lw.pass' rfl rfl rfl rfl rfl rfl rfl rfl (Lw.pass' rfl rfl rfl rfl rfl rfl rfl rfl (Lw.p rfl (vB false) rfl (Lw.g (vB false) rfl (Lw.nil (⟨?_, ⟨false, W22, rfl, (l10.trans (l16.trans l22)), rfl, hm⟩⟩)))))))))))))))))))
     iterate 32 (refine Agree.up rfl ?_)
     exact Agree.refl _
   ·replace hm := bf hm hc19
    refine Lw.pass' hc19 rfl rfl rfl rfl rfl rfl rfl (Lw.pass' hc19 rfl rfl rfl rfl rfl rfl rfl (Lw.pass' hc19 rfl rfl rfl rfl rfl rfl rfl (Lw.p hc19 (vB false) rfl (Lw.m (vB false) rfl (Lw.pass' rfl rfl rfl rfl rfl rfl rfl rfl (Lw.pass' rfl rfl rfl rfl rfl rfl rfl rfl (Lw.pass' rfl rfl rfl rfl rfl rfl rfl rfl (Lw.pass' rfl rfl rfl rfl rfl rfl rfl rfl (Lw.pass' rfl rfl rfl rfl rfl rfl rfl rfl (Lw.p rfl (vB false) rfl (Lw.m (vB false) rfl (Lw.pass' rfl rfl rfl rfl rfl rfl rfl rfl (Lw.pass' rfl rfl rfl rfl rfl rfl rfl rfl (Lw.pass' rfl rfl rfl rfl rfl rfl rfl rfl (Lw.pass' rfl rfl rfl rfl rfl rfl rfl rfl (Lw.p rfl (vB false) rfl (Lw.m (vB false) rfl (Lw.pass' rfl rfl rfl rfl rfl rfl rfl rfl (Lw.pass' rfl rfl rfl rfl rfl rfl rfl rfl (Lw.pass' rfl rfl rfl rfl rfl rfl rfl rfl (Lw.p rfl (vB false) rfl (Lw.g (vB false) rfl (Lw.nil (⟨?_, ⟨false, W16, rfl, (l10.trans l16), rfl, hm⟩⟩))))))))))))))))))))))))
    iterate 32 (refine Agree.up rfl ?_)
    exact Agree.refl _
  ·replace hm := bf hm hc13
   refine Lw.pass' hc13 rfl rfl rfl rfl rfl rfl rfl (Lw.pass' hc13 rfl rfl rfl rfl rfl rfl rfl (Lw.pass' hc13 rfl rfl rfl rfl rfl rfl rfl (Lw.p hc13 (vB false) rfl (Lw.m (vB false) rfl (Lw.pass' rfl rfl rfl rfl rfl rfl rfl rfl (Lw.pass' rfl rfl rfl rfl rfl rfl rfl rfl (Lw.pass' rfl rfl rfl rfl rfl rfl rfl rfl (Lw.p rfl (vB false) rfl (Lw.m (vB false) rfl (Lw.pass' rfl rfl rfl rfl rfl rfl rfl rfl (Lw.pass' rfl rfl rfl rfl rfl rfl rfl rfl (Lw.pass' rfl rfl rfl rfl rfl rfl rfl rfl (Lw.pass' rfl rfl rfl rfl rfl rfl rfl rfl (Lw.pass' rfl rfl rfl rfl rfl rfl rfl rfl (Lw.p rfl (vB false) rfl (Lw.m (vB false) rfl (Lw.pass' rfl rfl rfl rfl rfl rfl rfl rfl (Lw.pass' rfl rfl rfl rfl rfl rfl rfl rfl (Lw.pass' rfl rfl rfl rfl rfl rfl rfl rfl (Lw.pass' rfl rfl rfl rfl rfl rfl rfl rfl (Lw.p rfl (vB false) rfl (Lw.m (vB false) rfl (Lw.pass' rfl rfl rfl rfl rfl rfl rfl rfl (Lw.pass' rfl rfl rfl rfl rfl rfl rfl rfl (Lw.pass' rfl rfl rfl rfl rfl rfl rfl rfl (Lw.p rfl (vB false) rfl (Lw.g (vB false) rfl (Lw.nil (⟨?_, ⟨false, W10, rfl, l10, rfl, hm⟩⟩)))))))))))))))))))))))))))))
   iterate 32 (refine Agree.up rfl ?_)
   exact Agree.refl _

theorem p50 {W : CW} {K : List Nat} {x0 : Vm.Review} {v0_3_ : Value} {r : Bool} (h0 : Rd W K [vS x0.Branch, vS x0.Into, vS x0.By, v0_3_] x0) (hm : Vm.impl_ReviewOk x0 = some r) : CallR Try.prog 50 [.agg [vS x0.Branch, vS x0.Into, vS x0.By, v0_3_].toArray].toArray W.w (Res W [] fun W' v => v = vB r) :=
 (c50 (V := W.view K []) (h0.view _) hm).ad (fk 0) fun _ _ e => e

theorem c84 {V : CW} {x0 : List Str} {v0_ : Value} {x1 : Str} {r : (List Str)} (h0 : Rd V [0] [v0_] x0) (hm : Vm.impl_putName x0 x1 = some r) : CallR Try.prog 84 [v0_, vS x1].toArray V.w (Res V LL fun Wf v => ∃ (u0 : Value), v = u0 ∧ OwS Wf LL [] [u0] r) := by
 unfold Vm.impl_putName at hm
 obtain ⟨W0, hW0⟩ : ∃ W, W = V := ⟨V, rfl⟩
 subst hW0
 refine CallR.of Try.func84 rfl rfl rfl rfl (Cw.seq (Cw.region (Lw.g (.slice none 0 0) rfl (Lw.nil (Cw.seq (Cw.region (Lw.t rfl (T.lit0 (α := Str) 2 []) ?_)))))))
 rintro v1 _ ⟨W1, rfl, l1, o1⟩
 have a2 := l1.o
 refine Lw.m v0_ rfl ?_
 obtain ⟨q3, e4, hm⟩ := ob hm
 refine Lw.t rfl (T.appP (α := Str) o1 (h0.ul a2) rfl rfl e4) ?_
 rintro v5 _ ⟨W5, rfl, l5, o5⟩
 have a7 := a2.t l5 rfl
 refine Lw.m (vS x1) rfl (Lw.t rfl (T.bs 3 [vS x1] (cs := [vS x1]) rfl rfl (bsv rfl)) ?_)
 rintro _ _ ⟨g8, W8, rfl, rfl, l8, b8⟩
 have a9 := a7.n l8
 obtain ⟨q11, e12, hm⟩ := ob hm
 refine Lw.t rfl (T.app1S (α := Str) (K' := []) (o5.up l8 rfl) b8 (rdS _) rfl rfl e12) ?_
 rintro v13 _ ⟨W13, rfl, l13, o13⟩
 have a14 := a9.t l13 rfl
 refine Lw.g v13 rfl (Lw.nil (Cw.seq (Cw.region (Lw.m v13 rfl ?_))))
 obtain ⟨z16, e17, hm⟩ := ob hm
 refine Lw.t rfl (T.call rfl (p100 (K := [0])  (c0 := 2) o13 rfl e17)) ?_
 rintro _ _ ⟨W18, rfl, l18, ⟨rfl, f18_0⟩⟩
 have a19 := a14.t l18 rfl
 refine Lw.nil (Cw.seq (Cw.region (Lw.m v13 rfl ?_)))
 obtain ⟨z21, e22, hm⟩ := ob hm
 refine Lw.t rfl (T.call rfl (p101 (K := [0]) (k0 := 4) (c0 := 2) f18_0 rfl e22)) ?_
 rintro v0_23 _ ⟨W23, rfl, l23, ⟨_, rfl, f23_0⟩⟩
 have a24 := a19.t l23 rfl
 refine Lw.g v0_23 rfl (Lw.nil ?_)
 cases hm
 exact Cw.ret (ret1 rfl (Res.mk a24 ⟨v0_23, rfl, f23_0.s.sub rfl rfl⟩))

theorem p84 {W : CW} {K : List Nat} {x0 : List Str} {v0_ : Value} {x1 : Str} {k0 : Nat} {r : (List Str)} (h0 : Rd W K [v0_] x0) (hm : Vm.impl_putName x0 x1 = some r) : CallR Try.prog 84 [v0_, vS x1].toArray W.w (Res W [] fun W' v => ∃ (u0 : Value), v = u0 ∧ Ow W' k0 [] [u0] r) :=
 (c84 (V := W.view K []) (h0.view _) hm).ad (fk k0) fun _ _ ⟨u0, e, f0⟩ => ⟨u0, e, f0.back (fk_LL _)⟩

theorem c47 {V : CW} {x0 : Vm.Review} {v0_3_ : Value} {x1 : Str} {r : Vm.Review × Bool} (h0 : Rd V [0] [vS x0.Branch, vS x0.Into, vS x0.By, v0_3_] x0) (hm : Vm.impl_ReviewYes x0 x1 = some r) : CallR Try.prog 47 [.agg [vS x0.Branch, vS x0.Into, vS x0.By, v0_3_].toArray, vS x1].toArray V.w (Res V LL fun Wf v => ∃ (u0_3 : Value), v = .tuple [.agg [vS r.1.Branch, vS r.1.Into, vS r.1.By, u0_3].toArray, vB r.2].toArray ∧ OwS Wf LL [] [u0_3] r.1.Yes) := by
 unfold Vm.impl_ReviewYes at hm
 obtain ⟨w0_0, he0, h0_3⟩ := Review.split h0
 simp only [List.cons.injEq, and_true, true_and] at he0
 obtain rfl := he0
 obtain ⟨W0, hW0⟩ : ∃ W, W = V := ⟨V, rfl⟩
 subst hW0
 refine CallR.of Try.func47 rfl rfl rfl rfl (Cw.seq (Cw.region (Lw.t rfl (T.box 2 (v := .agg [vS x0.Branch, vS x0.Into, vS x0.By, v0_3_].toArray) (cs := [vS x0.Branch, vS x0.Into, vS x0.By, v0_3_]) rfl rfl) ?_)))
 rintro _ _ ⟨g1, W1, rfl, rfl, l1, b1⟩
 have a2 := l1.o
 refine Lw.t rfl (T.alloc 3 (cs := [vS ([] : Str), vS ([] : Str), vS ([] : Str), .slice none 0 0]) rfl) ?_
 rintro _ _ ⟨g3, W3, rfl, rfl, l3, b3⟩
 have a4 := a2.n l3
 refine Lw.g (vB false) rfl (Lw.nil (Cw.seq (Cw.seq (Cw.region (Lw.r rfl (R.lda (cs := [vS x0.Branch, vS x0.Into, vS x0.By, v0_3_]) (b1.up l3 rfl).cells rfl rfl) ?_)))))
 obtain ⟨z7, e8, hm⟩ := ob hm
 refine Lw.t rfl (T.call rfl (p50 (K := [0])  (Review.rd (K := [0]) x0.Branch x0.Into x0.By x0.Yes (h0_3.ul a4)) e8)) ?_
 rintro _ _ ⟨W9, rfl, l9, rfl⟩
 have a10 := a4.n l9
 have b11 := (b1.up l3 rfl).up l9 rfl
 refine Lw.r rfl (R.not rfl) (Lw.nil (Cw.cond (b := (!z7)) rfl (fun hc13 => ?_) (fun hc13 => ?_)))
 ·replace hm := bt hm hc13
  refine Cw.seq (Cw.region (Lw.r rfl (R.bd (zs := [vS ([] : Str), vS ([] : Str), vS ([] : Str), .slice none 0 0]) (cs := [vS ([] : Str), vS ([] : Str), vS ([] : Str), .slice none 0 0]) [] rfl rfl rfl bp_nil) (Lw.u (T.sta (vs := [vS ([] : Str), vS ([] : Str), vS ([] : Str), .slice none 0 0]) (b3.up l9 rfl) rfl rfl (oc_cons rfl (oc_cons rfl (oc_cons rfl (oc_cons rfl oc_nil)))) rfl rfl) ?_)))
  rintro _ _ ⟨W14, rfl, l14, b14⟩
  have a15 := a10.t l14 rfl
  refine Lw.g (vB false) rfl (Lw.nil ?_)
  cases hm
  exact Cw.ret (retA2 rfl b14 rfl (Res.mk a15 ⟨.slice none 0 0, rfl, (owsN []).sub rfl rfl⟩))
 ·replace hm := bf hm hc13
  refine Cw.skip (Cw.seq (Cw.region (Lw.r rfl (R.lda (cs := [vS x0.Branch, vS x0.Into, vS x0.By, v0_3_]) b11.cells rfl rfl) (Lw.t rfl (T.alloc 4 (cs := [vS ([] : Str), vS ([] : Str), vS ([] : Str), .slice none 0 0]) rfl) ?_))))
  rintro _ _ ⟨g17, W17, rfl, rfl, l17, b17⟩
  have a18 := a10.n l17
  refine Lw.u (T.sta (vs := [vS x0.Branch, vS x0.Into, vS x0.By, v0_3_]) b17 rfl rfl (oc_cons rfl (oc_cons rfl (oc_cons rfl (oc_cons h0_3.oc oc_nil)))) rfl rfl) ?_
  rintro _ _ ⟨W21, rfl, l21, b21⟩
  have a22 := a18.t l21 rfl
  have b23 := (b11.up l17 rfl).up l21 rfl
  refine Lw.nil (Cw.seq (Cw.region (Lw.fa rfl (Lw.r rfl (R.ld (v := v0_3_) rfl rfl (b23.cell rfl)) (Lw.m (vS x1) rfl ?_)))))
  obtain ⟨z26, e27, hm⟩ := ob hm
  refine Lw.t rfl (T.call rfl (p84 (K := [0]) (k0 := 5) (h0_3.ul a22) e27)) ?_
  rintro v0_28 _ ⟨W28, rfl, l28, ⟨_, rfl, f28_0⟩⟩
  have a29 := a22.n l28
  refine Lw.fa rfl (Lw.u (T.st (j := 3) (v := v0_28) (b21.up l28 rfl) rfl rfl f28_0.oc rfl rfl) ?_)
  rintro _ _ ⟨W33, rfl, l33, b33⟩
  have a34 := a29.t l33 rfl
  refine Lw.nil (Cw.seq (Cw.seq (Cw.region (Lw.r rfl (R.lda (cs := [vS x0.Branch, vS x0.Into, vS x0.By, v0_28]) b33.cells rfl rfl) ?_))))
  obtain ⟨z38, e39, hm⟩ := ob hm
  refine Lw.t rfl (T.call rfl (p50 (K := [5])  (x0 := (Vm.Review.mk x0.Branch x0.Into x0.By z26)) (Review.rd (K := [5]) x0.Branch x0.Into x0.By z26 (f28_0.up l33 rfl).rd) e39)) ?_
  rintro _ _ ⟨W40, rfl, l40, rfl⟩
  have a41 := a34.n l40
  have o42 := (f28_0.up l33 rfl).up l40 rfl
  have b44 := (((((b3.up l9 rfl).up l17 rfl).up l21 rfl).up l28 rfl).up l33 rfl).up l40 rfl
  refine Lw.r rfl (R.not rfl) (Lw.nil (Cw.cond (b := (!z38)) rfl (fun hc46 => ?_) (fun hc46 => ?_)))
  ·replace hm := bt hm hc46
   refine Cw.seq (Cw.region (Lw.t rfl (T.lit0 (α := Str) 6 []) ?_))
   rintro v47 _ ⟨W47, rfl, l47, o47⟩
   have a48 := a41.n l47
   refine Lw.fa rfl (Lw.r rfl (R.ld (v := v0_3_) rfl rfl (((((b23.up l28 rfl).up l33 rfl).up l40 rfl).up l47 rfl).cell rfl)) ?_)
   obtain ⟨q53, e54, hm⟩ := ob hm
   refine Lw.t rfl (T.appP (α := Str) o47 (h0_3.ul a48) rfl rfl e54) ?_
   rintro v55 _ ⟨W55, rfl, l55, o55⟩
   have a57 := a48.t l55 rfl
   refine Lw.fa rfl (Lw.u (T.st (j := 3) (v := v55) (((b33.up l40 rfl).up l47 rfl).up l55 rfl) rfl rfl o55.oc rfl rfl) ?_)
   rintro _ _ ⟨W62, rfl, l62, b62⟩
   have a63 := a57.t l62 rfl
   refine Lw.nil (Cw.seq (Cw.region (Lw.r rfl (R.lda (cs := [vS x0.Branch, vS x0.Into, vS x0.By, v55]) b62.cells rfl rfl) (Lw.u (T.sta (vs := [vS x0.Branch, vS x0.Into, vS x0.By, v55]) (((b44.up l47 rfl).up l55 rfl).up l62 rfl) rfl rfl (oc_cons rfl (oc_cons rfl (oc_cons rfl (oc_cons (o55.up l62 rfl).oc oc_nil)))) rfl rfl) ?_))))
   rintro _ _ ⟨W68, rfl, l68, b68⟩
   have a69 := a63.t l68 rfl
   refine Lw.g (vB false) rfl (Lw.nil ?_)
   cases hm
   exact Cw.ret (retA2 rfl b68 rfl (Res.mk a69 ⟨v55, rfl, ((o55.up l62 rfl).up l68 rfl).s.sub rfl rfl⟩))
  ·replace hm := bf hm hc46
   refine Cw.skip (Cw.seq (Cw.region (Lw.r rfl (R.lda (cs := [vS x0.Branch, vS x0.Into, vS x0.By, v0_28]) (b33.up l40 rfl).cells rfl rfl) (Lw.u (T.sta (vs := [vS x0.Branch, vS x0.Into, vS x0.By, v0_28]) b44 rfl rfl (oc_cons rfl (oc_cons rfl (oc_cons rfl (oc_cons o42.oc oc_nil)))) rfl rfl) ?_))))
   rintro _ _ ⟨W74, rfl, l74, b74⟩
   have a75 := a41.t l74 rfl
   refine Lw.g (vB true) rfl (Lw.nil ?_)
   cases hm
   exact Cw.ret (retA2 rfl b74 rfl (Res.mk a75 ⟨v0_28, rfl, (o42.up l74 rfl).s.sub rfl rfl⟩))

theorem p47 {W : CW} {K : List Nat} {x0 : Vm.Review} {v0_3_ : Value} {x1 : Str} {k0 : Nat} {r : Vm.Review × Bool} (h0 : Rd W K [vS x0.Branch, vS x0.Into, vS x0.By, v0_3_] x0) (hm : Vm.impl_ReviewYes x0 x1 = some r) : CallR Try.prog 47 [.agg [vS x0.Branch, vS x0.Into, vS x0.By, v0_3_].toArray, vS x1].toArray W.w (Res W [] fun W' v => ∃ (u0_3 : Value), v = .tuple [.agg [vS r.1.Branch, vS r.1.Into, vS r.1.By, u0_3].toArray, vB r.2].toArray ∧ Ow W' k0 [] [u0_3] r.1.Yes) :=
 (c47 (V := W.view K []) (h0.view _) hm).ad (fk k0) fun _ _ ⟨u0_3, e, f0⟩ => ⟨u0_3, e, f0.back (fk_LL _)⟩

theorem c109 {V : CW} {x0 : Int} {x1 : Int} {x2 : Int} {r : Bool}  (hm : Vm.spec_l1In x0 x1 x2 = some r) : CallR Try.prog 109 [vI x0, vI x1, vI x2].toArray V.w (Res V LL fun Wf v => v = vB r) := by
 unfold Vm.spec_l1In at hm
 obtain ⟨W0, hW0⟩ : ∃ W, W = V := ⟨V, rfl⟩
 subst hW0
 refine CallR.of Try.func109 rfl rfl rfl rfl (Cw.seq (Cw.region (Lw.g (vB false) rfl (Lw.nil ?_))))
 obtain ⟨K3, hK3, hm⟩ := jn_e hm
 refine Cw.join 7 14 [6] (fun l w => ∃ (y1 : Bool) (W2 : CW), W2.w = w ∧ Le [] W0 W2 ∧ l = [vB y1] ∧ K3 y1 = some r) ?_ ?_
 ·rintro _ _ σ ⟨y1, W2, rfl, l2, rfl, hm⟩
  rw [hK3] at hm
  have a4 := l2.o
  cases hm
  exact Cw.ret (ret1 rfl (Res.mk a4 rfl))
 ·refine Cw.region (Lw.m (vI x0) rfl (Lw.m (vI x1) rfl (Lw.ge rfl (Lw.m (vB (decide ((x1 : Int) ≤ (x0 : Int)))) rfl (bsplit (decide ((x1 : Int) ≤ (x0 : Int))) (fun hc5 => ?_) (fun hc5 => ?_))))))
  ·replace hm := bt hm hc5
   refine Lw.want' hc5 rfl rfl rfl rfl (Lw.m (vI x0) rfl (Lw.want' hc5 rfl rfl rfl rfl (Lw.m (vI x2) rfl (Lw.want' hc5 rfl rfl rfl rfl (Lw.le rfl (Lw.p hc5 (vB (decide ((x0 : Int) ≤ (x2 : Int)))) rfl (Lw.g (vB (decide ((x0 : Int) ≤ (x2 : Int)))) rfl (Lw.nil (⟨?_, ⟨decide ((x0 : Int) ≤ (x2 : Int)), W0, rfl, Le.refl _ _, rfl, hm⟩⟩)))))))))
   iterate 9 (refine Agree.up rfl ?_)
   exact Agree.refl _
  ·replace hm := bf hm hc5
   refine Lw.pass' hc5 rfl rfl rfl rfl rfl rfl rfl (Lw.pass' hc5 rfl rfl rfl rfl rfl rfl rfl (Lw.pass' hc5 rfl rfl rfl rfl rfl rfl rfl (Lw.p hc5 (vB false) rfl (Lw.g (vB false) rfl (Lw.nil (⟨?_, ⟨false, W0, rfl, Le.refl _ _, rfl, hm⟩⟩))))))
   iterate 9 (refine Agree.up rfl ?_)
   exact Agree.refl _

theorem p109 {W : CW} {K : List Nat} {x0 : Int} {x1 : Int} {x2 : Int} {r : Bool}  (hm : Vm.spec_l1In x0 x1 x2 = some r) : CallR Try.prog 109 [vI x0, vI x1, vI x2].toArray W.w (Res W [] fun W' v => v = vB r) :=
 (c109 (V := W.view K [])  hm).ad (fk 0) fun _ _ e => e

theorem c102 {V : CW} {x0 : Str} {r : Bool}  (hm : Vm.spec_l4Name x0 = some r) : CallR Try.prog 102 [vS x0].toArray V.w (Res V LL fun Wf v => v = vB r) := by
 unfold Vm.spec_l4Name at hm
 obtain ⟨W0, hW0⟩ : ∃ W, W = V := ⟨V, rfl⟩
 subst hW0
 refine CallR.of Try.func102 rfl rfl rfl rfl (Cw.seq (Cw.region (Lw.g (vB false) rfl (Lw.nil (Cw.seq (Cw.seq (Cw.region (Lw.g (vI 0) rfl (Lw.nil (Cw.block ?_))))))))))
 obtain ⟨K4, hK4, hm⟩ := jn_e hm
 refine Cw.loop 4 31 [2, 3] (fun m l w => ∃ (y1 : Bool) (y2 : Int) (W3 : CW), W3.w = w ∧ Le [] W0 W3 ∧ l = [vB y1, vI y2] ∧ Vm.spec_l4Name_l1 x0 K4 m y1 y2 = some r) (((x0.length : Int) - 0).toNat + 1) ⟨false, 0, W0, rfl, Le.refl _ _, rfl, hm⟩ ?_
 rintro m5 _ _ σ ⟨y1, y2, W3, rfl, l3, rfl, hm⟩
 obtain _ | m5 := m5
 ·cases hm
 unfold Vm.spec_l4Name_l1 at hm
 have a6 := l3.o
 refine Cw.seq (Cw.seq (Cw.region (Lw.m (vI y2) rfl (Lw.m (vS x0) rfl (Lw.r rfl (R.lenS rfl) (Lw.lt rfl (Lw.nil (Cw.cond (b := decide ((y2 : Int) < ((x0.length : Int) : Int))) rfl (fun hc7 => ?_) (fun hc7 => ?_)))))))))
 ·replace hm := bt hm hc7
  refine Cw.skip (Cw.seq (Cw.block ?_))
  obtain ⟨K10, hK10, hm⟩ := jn_e hm
  refine Cw.join 10 31 [31] (fun l w => ∃ (y8 : Bool) (W9 : CW), W9.w = w ∧ Le [] W3 W9 ∧ l = [vB y8] ∧ K10 y8 = some r) ?_ ?_
  ·rintro _ _ σ ⟨y8, W9, rfl, l9, rfl, hm⟩
   rw [hK10] at hm
   have a11 := a6.n l9
   refine Cw.cond (b := y8) rfl (fun hc12 => ?_) (fun hc12 => ?_)
   ·replace hm := bt hm hc12
    refine Cw.seq (Cw.region (Lw.g (vB false) rfl (Lw.nil ?_)))
    cases hm
    exact Cw.ret (ret1 rfl (Res.mk a11 rfl))
   ·replace hm := bf hm hc12
    refine Cw.skip (Cw.region (Lw.m (vI y2) rfl (Lw.add rfl (Lw.g (vI (w64 (y2 + 1))) rfl (Lw.nil (⟨?_, m5, Nat.lt_succ_self m5, ⟨y1, w64 (y2 + 1), W9, rfl, (l3.trans l9), rfl, hm⟩⟩))))))
    iterate 3 (refine Agree.up rfl ?_)
    iterate 1 (refine Agree.up rfl ?_)
    refine Agree.ov0 rfl ?_
    iterate 4 (refine Agree.up rfl ?_)
    iterate 2 (refine Agree.up rfl ?_)
    exact Agree.base
  ·refine Cw.region (Lw.m (vS x0) rfl (Lw.m (vI y2) rfl ?_))
   obtain ⟨u13, e14, hm⟩ := ob hm
   refine Lw.r rfl (R.chm e14 rfl rfl) (Lw.lt rfl (Lw.m (vB (decide (((UInt8.toNat u13 : Int) : Int) < (97 : Int)))) rfl (bsplit (decide (((UInt8.toNat u13 : Int) : Int) < (97 : Int))) (fun hc15 => ?_) (fun hc15 => ?_))))
   ·replace hm := bt hm hc15
    refine Lw.pass' hc15 rfl rfl rfl rfl rfl rfl rfl (Lw.pass' hc15 rfl rfl rfl rfl rfl rfl rfl (Lw.pass' hc15 rfl rfl rfl rfl rfl rfl rfl (Lw.pass' hc15 rfl rfl rfl rfl rfl rfl rfl (Lw.p hc15 (vB true) rfl (Lw.m (vB true) rfl (Lw.want' rfl rfl rfl rfl rfl (Lw.m (vS x0) rfl (Lw.want' rfl rfl rfl rfl rfl (Lw.m (vI y2) rfl (Lw.want' rfl rfl rfl rfl rfl ?_))))))))))
    obtain ⟨u16, e17, hm⟩ := ob hm
    refine Lw.r rfl (R.chm e17 rfl rfl) (Lw.want' rfl rfl rfl rfl rfl (Lw.lt rfl (Lw.want' rfl rfl rfl rfl rfl (Lw.m (vB (decide (((UInt8.toNat u16 : Int) : Int) < (48 : Int)))) rfl (bsplit (decide (((UInt8.toNat u16 : Int) : Int) < (48 : Int))) (fun hc18 => ?_) (fun hc18 => ?_))))))
    ·replace hm := bt hm hc18
     refine Lw.pass' hc18 rfl rfl rfl rfl rfl rfl rfl (Lw.pass' hc18 rfl rfl rfl rfl rfl rfl rfl (Lw.pass' hc18 rfl rfl rfl rfl rfl rfl rfl (Lw.pass' hc18 rfl rfl rfl rfl rfl rfl rfl (Lw.want' rfl rfl rfl rfl rfl (Lw.p hc18 (vB true) rfl (Lw.p rfl (vB true) rfl (Lw.nil (⟨?_, ⟨true, W3, rfl, Le.refl _ _, rfl, hm⟩⟩))))))))
     iterate 22 (refine Agree.up rfl ?_)
     exact Agree.refl _
    ·replace hm := bf hm hc18
     refine Lw.want' hc18 rfl rfl rfl rfl (Lw.m (vS x0) rfl (Lw.want' hc18 rfl rfl rfl rfl (Lw.m (vI y2) rfl (Lw.want' hc18 rfl rfl rfl rfl ?_))))
     obtain ⟨u19, e20, hm⟩ := ob hm
     refine Lw.r rfl (R.chm e20 rfl rfl) (Lw.want' hc18 rfl rfl rfl rfl (Lw.gt rfl (Lw.want' rfl rfl rfl rfl rfl (Lw.p hc18 (vB (decide ((57 : Int) < ((UInt8.toNat u19 : Int) : Int)))) rfl (Lw.p rfl (vB (decide ((57 : Int) < ((UInt8.toNat u19 : Int) : Int)))) rfl (Lw.nil (⟨?_, ⟨decide ((57 : Int) < ((UInt8.toNat u19 : Int) : Int)), W3, rfl, Le.refl _ _, rfl, hm⟩⟩)))))))
     iterate 22 (refine Agree.up rfl ?_)
     exact Agree.refl _
   ·replace hm := bf hm hc15
    refine Lw.want' hc15 rfl rfl rfl rfl (Lw.m (vS x0) rfl (Lw.want' hc15 rfl rfl rfl rfl (Lw.m (vI y2) rfl (Lw.want' hc15 rfl rfl rfl rfl ?_))))
    obtain ⟨u21, e22, hm⟩ := ob hm
    refine Lw.r rfl (R.chm e22 rfl rfl) (Lw.want' hc15 rfl rfl rfl rfl (Lw.gt rfl (Lw.p hc15 (vB (decide ((122 : Int) < ((UInt8.toNat u21 : Int) : Int)))) rfl (Lw.m (vB (decide ((122 : Int) < ((UInt8.toNat u21 : Int) : Int)))) rfl (bsplit (decide ((122 : Int) < ((UInt8.toNat u21 : Int) : Int))) (fun hc23 => ?_) (fun hc23 => ?_))))))
    ·replace hm := bt hm hc23
     refine Lw.want' hc23 rfl rfl rfl rfl (Lw.m (vS x0) rfl (Lw.want' hc23 rfl rfl rfl rfl (Lw.m (vI y2) rfl (Lw.want' hc23 rfl rfl rfl rfl ?_))))
     obtain ⟨u24, e25, hm⟩ := ob hm
     refine Lw.r rfl (R.chm e25 rfl rfl) (Lw.want' hc23 rfl rfl rfl rfl (Lw.lt rfl (Lw.want' hc23 rfl rfl rfl rfl (Lw.m (vB (decide (((UInt8.toNat u24 : Int) : Int) < (48 : Int)))) rfl (bsplit (decide (((UInt8.toNat u24 : Int) : Int) < (48 : Int))) (fun hc26 => ?_) (fun hc26 => ?_))))))
     ·replace hm := bt hm hc26
      refine Lw.pass' hc26 rfl rfl rfl rfl rfl rfl rfl (Lw.pass' hc26 rfl rfl rfl rfl rfl rfl rfl (Lw.pass' hc26 rfl rfl rfl rfl rfl rfl rfl (Lw.pass' hc26 rfl rfl rfl rfl rfl rfl rfl (Lw.want' hc23 rfl rfl rfl rfl (Lw.p hc26 (vB true) rfl (Lw.p hc23 (vB true) rfl (Lw.nil (⟨?_, ⟨true, W3, rfl, Le.refl _ _, rfl, hm⟩⟩))))))))
      iterate 22 (refine Agree.up rfl ?_)
      exact Agree.refl _
     ·replace hm := bf hm hc26
      refine Lw.want' hc26 rfl rfl rfl rfl (Lw.m (vS x0) rfl (Lw.want' hc26 rfl rfl rfl rfl (Lw.m (vI y2) rfl (Lw.want' hc26 rfl rfl rfl rfl ?_))))
      obtain ⟨u27, e28, hm⟩ := ob hm
      refine Lw.r rfl (R.chm e28 rfl rfl) (Lw.want' hc26 rfl rfl rfl rfl (Lw.gt rfl (Lw.want' hc23 rfl rfl rfl rfl (Lw.p hc26 (vB (decide ((57 : Int) < ((UInt8.toNat u27 : Int) : Int)))) rfl (Lw.p hc23 (vB (decide ((57 : Int) < ((UInt8.toNat u27 : Int) : Int)))) rfl (Lw.nil (⟨?_, ⟨decide ((57 : Int) < ((UInt8.toNat u27 : Int) : Int)), W3, rfl, Le.refl _ _, rfl, hm⟩⟩)))))))
      iterate 22 (refine Agree.up rfl ?_)
      exact Agree.refl _
    ·replace hm := bf hm hc23
     refine Lw.pass' hc23 rfl rfl rfl rfl rfl rfl rfl (Lw.pass' hc23 rfl rfl rfl rfl rfl rfl rfl (Lw.pass' hc23 rfl rfl rfl rfl rfl rfl rfl (Lw.pass' hc23 rfl rfl rfl rfl rfl rfl rfl (Lw.pass' hc23 rfl rfl rfl rfl rfl rfl rfl (Lw.passU rfl rfl rfl rfl rfl rfl (Lw.passU rfl rfl rfl rfl rfl rfl (Lw.passU rfl rfl rfl rfl rfl rfl (Lw.passU rfl rfl rfl rfl rfl rfl (Lw.pass' hc23 rfl rfl rfl rfl rfl rfl rfl (Lw.p hc23 (vB false) rfl (Lw.nil (⟨?_, ⟨false, W3, rfl, Le.refl _ _, rfl, hm⟩⟩))))))))))))
     iterate 22 (refine Agree.up rfl ?_)
     exact Agree.refl _
 ·replace hm := bf hm hc7
  refine Cw.exit ?_
  rw [hK4] at hm
  refine Cw.seq (Cw.region (Lw.m (vS x0) rfl (Lw.r rfl (R.lenS rfl) ?_)))
  obtain ⟨z29, e30, hm⟩ := ob hm
  refine Lw.t rfl (T.call rfl (p109 (K := [0])   e30)) ?_
  rintro _ _ ⟨W31, rfl, l31, rfl⟩
  have a32 := a6.n l31
  refine Lw.g (vB z29) rfl (Lw.nil ?_)
  cases hm
  exact Cw.ret (ret1 rfl (Res.mk a32 rfl))

theorem p102 {W : CW} {K : List Nat} {x0 : Str} {r : Bool}  (hm : Vm.spec_l4Name x0 = some r) : CallR Try.prog 102 [vS x0].toArray W.w (Res W [] fun W' v => v = vB r) :=
 (c102 (V := W.view K [])  hm).ad (fk 0) fun _ _ e => e

end Go.Sx
