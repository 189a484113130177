/- Walks: each function answers as its model, printed by a program of ours. Conditions: the arguments read as they are given. -/
import Derived.Test.YtjdljoplpcakpaaXTs
import Derived.Test.YtjdljoplpcakpaaXMd
import Derived.Test.YtjdljoplpcakpaaXW10
import Derived.Test.YtjdljoplpcakpaaXW2
import Derived.Test.YtjdljoplpcakpaaXW3
import Derived.Test.YtjdljoplpcakpaaXW7
import Derived.Test.YtjdljoplpcakpaaXW8
import Derived.Test.YtjdljoplpcakpaaXW9
namespace Go.Sx
open Go Go.Proofs Go.Vm Rp
set_option linter.unusedVariables false
set_option linter.unusedSimpArgs false

theorem c44 {V : CW} {x0 : List Byte} {v0_ : Value} {r : (List Vm.Memo) × (List Str) × (List Str) × (List Str)} (h0 : Rd V [0] [v0_] x0) (hm : Vm.spec_DrawMemoText x0 = some r) : CallR Try.prog 44 [v0_].toArray V.w (Res V LL fun Wf v => ∃ (u0 : Value) (u1 : Value) (u2 : Value) (u3 : Value), v = .tuple [u0, u1, u2, u3].toArray ∧ OwS Wf [31] [] [u0] r.1 ∧ OwS Wf [32] [] [u1] r.2.1 ∧ OwS Wf [33] [] [u2] r.2.2.1 ∧ OwS Wf [34] [] [u3] r.2.2.2) := by
 unfold Vm.spec_DrawMemoText at hm
 obtain ⟨W0, hW0⟩ : ∃ W, W = V := ⟨V, rfl⟩
 subst hW0
 refine CallR.of Try.func44 rfl rfl rfl rfl (Cw.seq (Cw.region (Lw.g (.slice none 0 0) rfl (Lw.g (.slice none 0 0) rfl (Lw.g (.slice none 0 0) rfl (Lw.g (.slice none 0 0) rfl (Lw.nil (Cw.seq (Cw.region (Lw.m v0_ rfl ?_))))))))))
 obtain ⟨z1, e2, hm⟩ := ob hm
 refine Lw.t rfl (T.call rfl (p58 (K := [0]) (k0 := 2) h0 e2)) ?_
 rintro _ _ ⟨W3, rfl, l3, ⟨g0_3, v0_0_3, rfl, f3_0, f3_1⟩⟩
 have s4 := f3_1.sub (M := [0]) rfl
 have a5 := l3.o
 refine Lw.g (ptr (bx g0_3)) rfl (Lw.nil (Cw.seq (Cw.region (Lw.m (ptr (bx g0_3)) rfl ?_))))
 obtain ⟨z6, e7, hm⟩ := ob hm
 refine Lw.t rfl (T.call rfl (p59 (K := [0]) (k0 := 3) (c0 := 2) (x0 := z1) f3_0 s4 rfl e7)) ?_
 rintro v0_8 _ ⟨W8, rfl, l8, ⟨_, rfl, f8_0, f8_1⟩⟩
 have a9 := l8.s rfl
 refine Lw.g v0_8 rfl (Lw.nil (Cw.seq (Cw.region (Lw.m (ptr (bx g0_3)) rfl ?_))))
 obtain ⟨z11, e12, hm⟩ := ob hm
 refine Lw.t rfl (T.call rfl (p77 (K := [0]) (k0 := 4) (c0 := 2) (x0 := (Vm.l30Rd.mk z1.b z6.2)) f8_1 (s4.ul a9) rfl e12)) ?_
 rintro v0_13 _ ⟨W13, rfl, l13, ⟨_, rfl, f13_0, f13_1⟩⟩
 have a14 := l13.s rfl
 refine Lw.g v0_13 rfl (Lw.nil (Cw.seq (Cw.region (Lw.m (ptr (bx g0_3)) rfl (Lw.m v0_13 rfl ?_)))))
 obtain ⟨z17, e18, hm⟩ := ob hm
 refine Lw.t rfl (T.call rfl (p78 (K := [0, 4]) (k0 := 5) (c0 := 2) (x0 := (Vm.l30Rd.mk z1.b z11.2)) f13_1 ((s4.ul (a9.trans a14)).sub (M := [0, 4]) rfl) (f13_0.rd.sub (M := [0, 4]) rfl) rfl e18)) ?_
 rintro v0_19 _ ⟨W19, rfl, l19, ⟨_, rfl, f19_0, f19_1⟩⟩
 have a20 := l19.s rfl
 refine Lw.g v0_19 rfl (Lw.nil (Cw.seq (Cw.region (Lw.m (ptr (bx g0_3)) rfl (Lw.m v0_13 rfl ?_)))))
 obtain ⟨z24, e25, hm⟩ := ob hm
 refine Lw.t rfl (T.call rfl (p78 (K := [0, 4]) (k0 := 6) (c0 := 2) (x0 := (Vm.l30Rd.mk z1.b z17.2)) f19_1 ((s4.ul ((a9.trans a14).trans a20)).sub (M := [0, 4]) rfl) ((f13_0.up l19 rfl).rd.sub (M := [0, 4]) rfl) rfl e25)) ?_
 rintro v0_26 _ ⟨W26, rfl, l26, ⟨_, rfl, f26_0, f26_1⟩⟩
 have a27 := l26.s rfl
 have o29 := (f13_0.up l19 rfl).up l26 rfl
 refine Lw.g v0_26 rfl (Lw.nil (Cw.seq (Cw.region (Lw.m v0_13 rfl (Lw.m v0_19 rfl (Lw.m v0_26 rfl ?_))))))
 obtain ⟨z31, e32, hm⟩ := ob hm
 refine Lw.t rfl (T.call rfl (p35 (K := [4, 5, 6]) (k0 := 7) (o29.rd.sub (M := [4, 5, 6]) rfl) ((f19_0.up l26 rfl).rd.sub (M := [4, 5, 6]) rfl) (f26_0.rd.sub (M := [4, 5, 6]) rfl) e32)) ?_
 rintro v0_33 _ ⟨W33, rfl, l33, ⟨_, rfl, f33_0⟩⟩
 have a34 := l33.o
 refine Lw.g v0_33 rfl (Lw.nil (Cw.seq (Cw.seq (Cw.region (Lw.g (vI 0) rfl (Lw.nil (Cw.block ?_)))))))
 obtain ⟨K52, hK52, hm⟩ := jn_e hm
 refine Cw.loop 31 71 [7, 12, 13, 14] (fun m l w => ∃ (y40 : List Vm.Memo) (y43 : Int) (y46 : List Byte) (y49 : Int) (v41 j44 j45 v47 : Value) (W51 : CW), W51.w = w ∧ Le [2, 9] W33 W51 ∧ l = [v41, vI y43, j44, j45] ∧ Ow W51 3 [] [v41] y40 ∧ Rd W51 [0] [v47] y46 ∧ Bx W51 2 g0_3 [v47, vI y49] ∧ Vm.spec_DrawMemoText_l1 z31 K52 m y40 y43 y46 y49 = some r) (((z31.length : Int) - 0).toNat + 1) ⟨z6.1, 0, z1.b, z24.2, v0_8, undef, undef, v0_0_3, W33, rfl, Le.refl _ _, rfl, ((((f8_0.up l13 rfl).up l19 rfl).up l26 rfl).up l33 rfl), (s4.ul ((((a9.trans a14).trans a20).trans a27).trans a34)), (f26_1.up l33 rfl), hm⟩ ?_
 rintro m54 _ _ σ ⟨y40, y43, y46, y49, v41, j44, j45, v47, W51, rfl, l51, rfl, o42, r48, b50, hm⟩
 obtain _ | m54 := m54
 ·cases hm
 unfold Vm.spec_DrawMemoText_l1 at hm
 have a55 := (((((a5.trans a9).trans a14).trans a20).trans a27).trans a34).t l51 rfl
 have o59 := f33_0.up l51 rfl
 refine Cw.seq (Cw.seq (Cw.region (Lw.m (vI y43) rfl (Lw.m v0_33 rfl (Lw.ln z31 o59.rd rfl (Lw.lt rfl (Lw.nil (Cw.cond (b := decide ((y43 : Int) < ((z31.length : Int) : Int))) rfl (fun hc60 => ?_) (fun hc60 => ?_)))))))))
 ·replace hm := bt hm hc60
  refine Cw.skip ?_
  obtain ⟨K72, hK72, hm⟩ := jn_e hm
  refine Cw.join 37 71 [7, 13, 14] (fun l w => ∃ (y61 : List Vm.Memo) (y66 : List Byte) (y69 : Int) (v62 j64 j65 v67 : Value) (W71 : CW), W71.w = w ∧ Le [2, 9] W51 W71 ∧ l = [v62, j64, j65] ∧ Ow W71 3 [] [v62] y61 ∧ Rd W71 [0] [v67] y66 ∧ Bx W71 2 g0_3 [v67, vI y69] ∧ K72 y61 y66 y69 = some r) ?_ ?_
  ·rintro _ _ σ ⟨y61, y66, y69, v62, j64, j65, v67, W71, rfl, l71, rfl, o63, r68, b70, hm⟩
   rw [hK72] at hm
   refine Cw.region (Lw.m (vI y43) rfl (Lw.add rfl (Lw.g (vI (w64 (y43 + 1))) rfl (Lw.nil (⟨?_, m54, Nat.lt_succ_self m54, ⟨y61, w64 (y43 + 1), y66, y69, v62, j64, j65, v67, W71, rfl, (l51.trans l71), rfl, o63, r68, b70, hm⟩⟩)))))
   iterate 3 (refine Agree.up rfl ?_)
   iterate 3 (refine Agree.up rfl ?_)
   refine Agree.ov0 rfl ?_
   iterate 4 (refine Agree.up rfl ?_)
   iterate 4 (refine Agree.up rfl ?_)
   exact Agree.base
  ·refine Cw.block ?_
   obtain ⟨K85, hK85, hm⟩ := jn_e hm
   refine Cw.join 37 46 [46] (fun l w => ∃ (y78 : Bool) (y79 : List Byte) (y82 : Int) (v80 : Value) (W84 : CW), W84.w = w ∧ Le [2] W51 W84 ∧ l = [vB y78] ∧ Rd W84 [0] [v80] y79 ∧ Bx W84 2 g0_3 [v80, vI y82] ∧ K85 y78 y79 y82 = some r) ?_ ?_
   ·rintro _ _ σ ⟨y78, y79, y82, v80, W84, rfl, l84, rfl, r81, b83, hm⟩
    rw [hK85] at hm
    refine Cw.cond (b := y78) rfl (fun hc92 => ?_) (fun hc92 => ?_)
    ·replace hm := bt hm hc92
     refine Cw.seq (Cw.draw [2] [(0, 0), (1, 0), (2, 0), (3, 0), (4, 0), (5, 1), (6, 0), (7, 0), (8, 0), (9, 0), (10, 1), (11, 0), (12, 0), (13, 0), (14, 0), (15, 1), (16, 0), (17, 2), (18, 0), (19, 2), (20, 0), (21, 0), (22, 0), (23, 0), (24, 0)] mixed (by kernel_rfl) fun W93 l93 => ?_)
     have a94 := l93.o
     have o99 := (o59.up l84 rfl).up l93 rfl
     refine Mw.p rfl rfl (fun _ => R.mv (v := v41) rfl) (Mw.p rfl rfl (fun _ => R.mv (v := v0_33) rfl) (Mw.p rfl rfl (fun _ => R.mv (v := vI y43) rfl) ?_))
     obtain ⟨u101, e102, hm⟩ := ob hm
     refine Mw.p rfl rfl (fun _ => R.ix (α := Part) o99.rd e102 rfl rfl rfl) (Mw.p rfl rfl (fun _ => R.fa rfl) ?_)
     obtain ⟨v103, c104, r105⟩ := (Part.at2 (o99.rd.at_ e102)).cell rfl
     refine Mw.q rfl rfl (fun _ c => R.ld rfl rfl (cl_cell (Part.at2 (o99.rd.at_ e102)).1 rfl c104 c)) (Mw.p rfl rfl (fun _ => R.mv (v := v0_33) rfl) (Mw.p rfl rfl (fun _ => R.mv (v := vI y43) rfl) ?_))
     obtain ⟨u106, e107, hm⟩ := ob hm
     refine Mw.p rfl rfl (fun _ => R.ix (α := Part) o99.rd e107 rfl rfl rfl) (Mw.p rfl rfl (fun _ => R.fa rfl) ?_)
     obtain ⟨v108, c109, r110⟩ := (Part.at4 (o99.rd.at_ e107)).cell rfl
     refine Mw.q rfl rfl (fun _ c => R.ld rfl rfl (cl_cell (Part.at4 (o99.rd.at_ e107)).1 rfl c109 c)) (Mw.p rfl rfl (fun _ => R.mv (v := v0_33) rfl) (Mw.p rfl rfl (fun _ => R.mv (v := vI y43) rfl) ?_))
     obtain ⟨u111, e112, hm⟩ := ob hm
     refine Mw.p rfl rfl (fun _ => R.ix (α := Part) o99.rd e112 rfl rfl rfl) (Mw.p rfl rfl (fun _ => R.fa rfl) ?_)
     obtain ⟨v113, c114, r115⟩ := (Part.at3 (o99.rd.at_ e112)).cell rfl
     refine Mw.q rfl rfl (fun _ c => R.ld rfl rfl (cl_cell (Part.at3 (o99.rd.at_ e112)).1 rfl c114 c)) (Mw.p rfl rfl (fun _ => R.mv (v := ptr (bx g0_3)) rfl) ?_)
     obtain ⟨z117, e118, hm⟩ := ob hm
     refine Mw.t rfl rfl (T.call rfl (p80 (K := [0]) (k0 := 8) (c0 := 2) (x0 := (Vm.l30Rd.mk y79 y82)) (b83.up l93 rfl) (r81.ul a94) rfl e118)) ?_
     rintro v0_119 _ ⟨W119, rfl, l119, ⟨_, rfl, f119_0, f119_1⟩⟩
     have a120 := a94.t l119 rfl
     have o121 := ((o42.up l84 rfl).up l93 rfl).up l119 rfl
     refine ⟨⟨_, rfl, (l119.sub (M := [2]) rfl)⟩, ?_⟩
     refine Mw.p rfl rfl (fun _ => R.bd (zs := [.slice none 0 0, .slice none 0 0, .slice none 0 0, .slice none 0 0]) (cs := [v103, v108, v113, v0_119]) [(0, v103), (1, v108), (2, v113), (3, v0_119)] rfl rfl rfl (bp_cons r105.oc rfl (bp_cons r110.oc rfl (bp_cons r115.oc rfl (bp_cons f119_0.oc rfl bp_nil))))) ?_
     have s126 := r105.up (l119.sub (M := [2]) rfl) rfl
     have s127 := r110.up (l119.sub (M := [2]) rfl) rfl
     have s128 := r115.up (l119.sub (M := [2]) rfl) rfl
     obtain ⟨z129, e130, hm⟩ := ob hm
     refine Mw.t rfl rfl (T.call rfl (p19 (K := [3, 7, 8]) (k0 := 9) (o121.rd.sub (M := [3, 7, 8]) rfl) ((Memo.rd (K := [7, 8]) u101.Old u106.Two u111.One z117.1 (s126.sub (M := [7, 8]) rfl) (s127.sub (M := [7, 8]) rfl) (s128.sub (M := [7, 8]) rfl) (f119_0.rd.sub (M := [7, 8]) rfl)).sub (M := [3, 7, 8]) rfl) e130)) ?_
     rintro _ _ ⟨W131, rfl, l131, ⟨v0_131, rfl, f131_0⟩⟩
     have a132 := a120.n l131
     refine ⟨⟨_, rfl, ((l119.sub (M := [2]) rfl).trans (l131.sub (M := [2]) rfl))⟩, ?_⟩
     refine Mw.p rfl rfl (fun _ => R.mv (v := .tuple [v0_131, vB z129.2].toArray) rfl) (Mw.p rfl rfl (fun _ => R.ext (vs := [v0_131, vB z129.2]) (v := v0_131) rfl rfl) (Mw.p rfl rfl (fun _ => R.ext (vs := [v0_131, vB z129.2]) (v := vB z129.2) rfl rfl) (Mw.p rfl rfl (fun _ => R.as (v := v0_131) rfl) (Mw.p rfl rfl (fun _ => R.as (v := vB z129.2) rfl) (Mw.nil (Cw.seq (Cw.region (Lw.m (vB z129.2) rfl (Lw.nil (Cw.cond (b := z129.2) rfl (fun hc140 => ?_) (fun hc140 => ?_)))))))))))
     ·replace hm := bt hm hc140
      refine Cw.region (Lw.m v0_131 rfl (Lw.g v0_131 rfl (Lw.nil ?_)))
      obtain ⟨W141, ew141, l141, o141⟩ := f131_0.dyeO 3
      have a142 := a132.t l141 rfl
      refine ⟨?_, ⟨z129.1, y79, z117.2, v0_131, v0_131, vB z129.2, v80, W141, ew141, ((l84.sub rfl).trans ((l93.sub rfl).trans ((l119.sub rfl).trans ((l131.sub rfl).trans (l141.sub rfl))))), rfl, o141, (r81.ul a142), ((f119_1.up l131 rfl).up l141 rfl), hm⟩⟩
      iterate 28 (refine Agree.up rfl ?_)
      iterate 1 (refine Agree.up rfl ?_)
      refine Agree.ov0 rfl ?_
      exact Agree.refl _
     ·replace hm := bf hm hc140
      refine Cw.skip (⟨?_, ⟨y40, y79, z117.2, v41, v0_131, vB z129.2, v80, W131, rfl, ((l84.sub rfl).trans ((l93.sub rfl).trans ((l119.sub rfl).trans (l131.sub rfl)))), rfl, (o121.up l131 rfl), (r81.ul a132), (f119_1.up l131 rfl), hm⟩⟩)
      iterate 26 (refine Agree.up rfl ?_)
      iterate 1 (refine Agree.up rfl ?_)
      refine Agree.ov0 rfl ?_
      exact Agree.refl _
    ·replace hm := bf hm hc92
     refine Cw.skip (⟨?_, ⟨y40, y79, y82, v41, j44, j45, v80, W84, rfl, (l84.sub rfl), rfl, (o42.up l84 rfl), r81, b83, hm⟩⟩)
     iterate 1 (refine Agree.up rfl ?_)
     refine Agree.ov0 rfl ?_
     exact Agree.refl _
   ·refine Cw.region (Lw.m v0_33 rfl (Lw.m (vI y43) rfl ?_))
    obtain ⟨u151, e152, hm⟩ := ob hm
    refine Lw.r rfl (R.ix (α := Part) o59.rd e152 rfl rfl rfl) (Lw.fa rfl (Lw.r rfl (R.ld rfl rfl (Part.at0 (o59.rd.at_ e152)).bool) (Lw.m (vB u151.Clash) rfl (bsplit u151.Clash (fun hc153 => ?_) (fun hc153 => ?_)))))
    ·replace hm := bt hm hc153
     refine Lw.want' hc153 rfl rfl rfl rfl (Lw.m (ptr (bx g0_3)) rfl (Lw.want' hc153 rfl rfl rfl rfl ?_))
     obtain ⟨z154, e155, hm⟩ := ob hm
     refine Lw.t rfl (T.call rfl (p79 (K := [0])  (c0 := 2) (x0 := (Vm.l30Rd.mk y46 y49)) b50 r48 rfl e155)) ?_
     rintro _ _ ⟨W156, rfl, l156, ⟨rfl, f156_0⟩⟩
     have a157 := l156.s rfl
     refine Lw.want' hc153 rfl rfl rfl rfl (Lw.gt rfl (Lw.p hc153 (vB (decide ((0 : Int) < (z154.1 : Int)))) rfl (Lw.nil (⟨?_, ⟨decide ((0 : Int) < (z154.1 : Int)), y46, z154.2, v47, W156, rfl, l156, rfl, (r48.ul a157), f156_0, hm⟩⟩))))
     iterate 10 (refine Agree.up rfl ?_)
     exact Agree.refl _
    ·replace hm := bf hm hc153
     refine Lw.pass' hc153 rfl rfl rfl rfl rfl rfl rfl (Lw.pass' hc153 rfl rfl rfl rfl rfl rfl rfl (Lw.pass' hc153 rfl rfl rfl rfl rfl rfl rfl (Lw.p hc153 (vB false) rfl (Lw.nil (⟨?_, ⟨false, y46, y49, v47, W51, rfl, Le.refl _ _, rfl, r48, b50, hm⟩⟩)))))
     iterate 10 (refine Agree.up rfl ?_)
     exact Agree.refl _
 ·replace hm := bf hm hc60
  refine Cw.exit ?_
  rw [hK52] at hm
  refine Cw.seq (Cw.region (Lw.m v41 rfl (Lw.m v0_13 rfl (Lw.m v0_19 rfl (Lw.m v0_26 rfl (Lw.g v41 rfl (Lw.g v0_13 rfl (Lw.g v0_19 rfl (Lw.g v0_26 rfl (Lw.nil ?_))))))))))
  obtain ⟨W164, ew164, l164, o164⟩ := o42.dyeO 31
  have a165 := a55.t l164 rfl
  obtain ⟨W171, ew171, l171, o171⟩ := (((o29.up l33 rfl).up l51 rfl).up l164 rfl).dyeO 32
  have a172 := a165.t l171 rfl
  obtain ⟨W178, ew178, l178, o178⟩ := (((((f19_0.up l26 rfl).up l33 rfl).up l51 rfl).up l164 rfl).up l171 rfl).dyeO 33
  have a179 := a172.t l178 rfl
  obtain ⟨W185, ew185, l185, o185⟩ := (((((f26_0.up l33 rfl).up l51 rfl).up l164 rfl).up l171 rfl).up l178 rfl).dyeO 34
  have a186 := a179.t l185 rfl
  cases hm
  rw [← ew185.trans (ew178.trans (ew171.trans (ew164)))]
  exact Cw.ret (ret4 rfl rfl rfl rfl (Res.mk a186 ⟨v41, v0_13, v0_19, v0_26, rfl, (((o164.up l171 rfl).up l178 rfl).up l185 rfl).s, ((o171.up l178 rfl).up l185 rfl).s, (o178.up l185 rfl).s, o185.s⟩))

theorem p44 {W : CW} {K : List Nat} {x0 : List Byte} {v0_ : Value} {k0 : Nat} {k1 : Nat} {k2 : Nat} {k3 : Nat} {r : (List Vm.Memo) × (List Str) × (List Str) × (List Str)} (h0 : Rd W K [v0_] x0) (hm : Vm.spec_DrawMemoText x0 = some r) : CallR Try.prog 44 [v0_].toArray W.w (Res W [] fun W' v => ∃ (u0 : Value) (u1 : Value) (u2 : Value) (u3 : Value), v = .tuple [u0, u1, u2, u3].toArray ∧ Ow W' k0 [] [u0] r.1 ∧ Ow W' k1 [] [u1] r.2.1 ∧ Ow W' k2 [] [u2] r.2.2.1 ∧ Ow W' k3 [] [u3] r.2.2.2) :=
 CallR.adJ (J := []) (fun c => bif Nat.beq c 0 then 0 else bif Nat.beq c 31 then k0 else bif Nat.beq c 32 then k1 else bif Nat.beq c 33 then k2 else bif Nat.beq c 34 then k3 else 0) (c44 (V := W.view K []) (h0.view _) hm) fun _ _ ⟨u0, u1, u2, u3, e, f0, f1, f2, f3⟩ => ⟨u0, u1, u2, u3, e, f0.one1.backN rfl, f1.one1.backN rfl, f2.one1.backN rfl, f3.one1.backN rfl⟩

theorem c43 {V : CW} {x0 : List Byte} {v0_ : Value} {r : (List Vm.Memo) × (List Str) × (List Str) × (List Str)} (h0 : Rd V [0] [v0_] x0) (hm : Vm.spec_DrawMemoLeft x0 = some r) : CallR Try.prog 43 [v0_].toArray V.w (Res V LL fun Wf v => ∃ (u0 : Value) (u1 : Value) (u2 : Value) (u3 : Value), v = .tuple [u0, u1, u2, u3].toArray ∧ OwS Wf [31] [] [u0] r.1 ∧ OwS Wf [32] [] [u1] r.2.1 ∧ OwS Wf [33] [] [u2] r.2.2.1 ∧ OwS Wf [34] [] [u3] r.2.2.2) := by
 unfold Vm.spec_DrawMemoLeft at hm
 obtain ⟨W0, hW0⟩ : ∃ W, W = V := ⟨V, rfl⟩
 subst hW0
 refine CallR.of Try.func43 rfl rfl rfl rfl (Cw.seq (Cw.region (Lw.g (.slice none 0 0) rfl (Lw.g (.slice none 0 0) rfl (Lw.g (.slice none 0 0) rfl (Lw.g (.slice none 0 0) rfl (Lw.nil (Cw.seq (Cw.region (Lw.m v0_ rfl ?_))))))))))
 obtain ⟨z1, e2, hm⟩ := ob hm
 refine Lw.t rfl (T.call rfl (p44 (K := [0]) (k0 := 2) (k1 := 3) (k2 := 4) (k3 := 5) h0 e2)) ?_
 rintro _ _ ⟨W3, rfl, l3, ⟨v0_3, v1_3, v2_3, v3_3, rfl, f3_0, f3_1, f3_2, f3_3⟩⟩
 have a4 := l3.o
 refine Lw.r rfl (R.ext (vs := [v0_3, v1_3, v2_3, v3_3]) (v := v0_3) rfl rfl) (Lw.r rfl (R.ext (vs := [v0_3, v1_3, v2_3, v3_3]) (v := v1_3) rfl rfl) (Lw.r rfl (R.ext (vs := [v0_3, v1_3, v2_3, v3_3]) (v := v2_3) rfl rfl) (Lw.r rfl (R.ext (vs := [v0_3, v1_3, v2_3, v3_3]) (v := v3_3) rfl rfl) (Lw.g v0_3 rfl (Lw.g v1_3 rfl (Lw.g v2_3 rfl (Lw.g v3_3 rfl (Lw.nil ?_))))))))
 obtain ⟨W5, ew5, l5, o5⟩ := f3_0.dyeO 31
 have a6 := a4.t l5 rfl
 obtain ⟨W10, ew10, l10, o10⟩ := (f3_1.up l5 rfl).dyeO 32
 have a11 := a6.t l10 rfl
 obtain ⟨W15, ew15, l15, o15⟩ := ((f3_2.up l5 rfl).up l10 rfl).dyeO 33
 have a16 := a11.t l15 rfl
 obtain ⟨W20, ew20, l20, o20⟩ := (((f3_3.up l5 rfl).up l10 rfl).up l15 rfl).dyeO 34
 have a21 := a16.t l20 rfl
 cases hm
 rw [← ew20.trans (ew15.trans (ew10.trans (ew5)))]
 exact Cw.ret (ret4 rfl rfl rfl rfl (Res.mk a21 ⟨v0_3, v1_3, v2_3, v3_3, rfl, (((o5.up l10 rfl).up l15 rfl).up l20 rfl).s, ((o10.up l15 rfl).up l20 rfl).s, (o15.up l20 rfl).s, o20.s⟩))

theorem p43 {W : CW} {K : List Nat} {x0 : List Byte} {v0_ : Value} {k0 : Nat} {k1 : Nat} {k2 : Nat} {k3 : Nat} {r : (List Vm.Memo) × (List Str) × (List Str) × (List Str)} (h0 : Rd W K [v0_] x0) (hm : Vm.spec_DrawMemoLeft x0 = some r) : CallR Try.prog 43 [v0_].toArray W.w (Res W [] fun W' v => ∃ (u0 : Value) (u1 : Value) (u2 : Value) (u3 : Value), v = .tuple [u0, u1, u2, u3].toArray ∧ Ow W' k0 [] [u0] r.1 ∧ Ow W' k1 [] [u1] r.2.1 ∧ Ow W' k2 [] [u2] r.2.2.1 ∧ Ow W' k3 [] [u3] r.2.2.2) :=
 CallR.adJ (J := []) (fun c => bif Nat.beq c 0 then 0 else bif Nat.beq c 31 then k0 else bif Nat.beq c 32 then k1 else bif Nat.beq c 33 then k2 else bif Nat.beq c 34 then k3 else 0) (c43 (V := W.view K []) (h0.view _) hm) fun _ _ ⟨u0, u1, u2, u3, e, f0, f1, f2, f3⟩ => ⟨u0, u1, u2, u3, e, f0.one1.backN rfl, f1.one1.backN rfl, f2.one1.backN rfl, f3.one1.backN rfl⟩

theorem c9 {V : CW} {x0 : List Byte} {v0_ : Value} {r : Bool} (h0 : Rd V [0] [v0_] x0) (hm : Vm.laws_FnMemoLeft x0 = some r) : CallR Try.prog 9 [v0_].toArray V.w (Res V LL fun Wf v => v = vB r) := by
 unfold Vm.laws_FnMemoLeft at hm
 obtain ⟨W0, hW0⟩ : ∃ W, W = V := ⟨V, rfl⟩
 subst hW0
 refine CallR.of Try.func9 rfl rfl rfl rfl (Cw.seq (Cw.region (Lw.g (vB false) rfl (Lw.nil (Cw.seq (Cw.seq (Cw.region (Lw.m v0_ rfl (Lw.ln x0 h0 rfl (Lw.gt rfl (Lw.nil (Cw.cond (b := decide ((1048576 : Int) < ((x0.length : Int) : Int))) rfl (fun hc1 => ?_) (fun hc1 => ?_)))))))))))))
 ·replace hm := bt hm hc1
  refine Cw.seq (Cw.region (Lw.g (vB true) rfl (Lw.nil ?_)))
  cases hm
  exact Cw.ret (ret1 rfl (Res.mk (Le.refl _ _) rfl))
 ·replace hm := bf hm hc1
  refine Cw.skip (Cw.seq (Cw.region (Lw.m v0_ rfl ?_)))
  obtain ⟨z2, e3, hm⟩ := ob hm
  refine Lw.t rfl (T.call rfl (p43 (K := [0]) (k0 := 2) (k1 := 3) (k2 := 4) (k3 := 5) h0 e3)) ?_
  rintro _ _ ⟨W4, rfl, l4, ⟨v0_4, v1_4, v2_4, v3_4, rfl, f4_0, f4_1, f4_2, f4_3⟩⟩
  have a5 := l4.o
  refine Lw.m (.tuple [v0_4, v1_4, v2_4, v3_4].toArray) rfl (Lw.r rfl (R.ext (vs := [v0_4, v1_4, v2_4, v3_4]) (v := v0_4) rfl rfl) (Lw.r rfl (R.ext (vs := [v0_4, v1_4, v2_4, v3_4]) (v := v1_4) rfl rfl) (Lw.r rfl (R.ext (vs := [v0_4, v1_4, v2_4, v3_4]) (v := v2_4) rfl rfl) (Lw.r rfl (R.ext (vs := [v0_4, v1_4, v2_4, v3_4]) (v := v3_4) rfl rfl) (Lw.g v0_4 rfl (Lw.g v1_4 rfl (Lw.g v2_4 rfl (Lw.g v3_4 rfl (Lw.nil (Cw.seq (Cw.region (Lw.m v0_4 rfl (Lw.m v1_4 rfl (Lw.m v2_4 rfl (Lw.m v3_4 rfl ?_)))))))))))))))
  obtain ⟨z6, e7, hm⟩ := ob hm
  refine Lw.t rfl (T.call rfl (p30 (K := [2, 3, 4, 5])  (f4_0.rd.sub (M := [2, 3, 4, 5]) rfl) (f4_1.rd.sub (M := [2, 3, 4, 5]) rfl) (f4_2.rd.sub (M := [2, 3, 4, 5]) rfl) (f4_3.rd.sub (M := [2, 3, 4, 5]) rfl) e7)) ?_
  rintro _ _ ⟨W8, rfl, l8, rfl⟩
  have a9 := a5.n l8
  refine Lw.g (vI z6) rfl (Lw.nil (Cw.seq ?_))
  obtain ⟨K16, hK16, hm⟩ := jn_e hm
  refine Cw.join 27 37 [37] (fun l w => ∃ (y14 : Bool) (W15 : CW), W15.w = w ∧ Le [] W8 W15 ∧ l = [vB y14] ∧ K16 y14 = some r) ?_ ?_
  ·rintro _ _ σ ⟨y14, W15, rfl, l15, rfl, hm⟩
   rw [hK16] at hm
   have a17 := a9.n l15
   have o18 := (f4_0.up l8 rfl).up l15 rfl
   have o19 := (f4_1.up l8 rfl).up l15 rfl
   have o20 := (f4_2.up l8 rfl).up l15 rfl
   have o21 := (f4_3.up l8 rfl).up l15 rfl
   refine Cw.cond (b := y14) rfl (fun hc22 => ?_) (fun hc22 => ?_)
   ·replace hm := bt hm hc22
    refine Cw.seq (Cw.region (Lw.m (vI z6) rfl (Lw.m v0_4 rfl (Lw.m v1_4 rfl (Lw.m v2_4 rfl (Lw.m v3_4 rfl ?_))))))
    obtain ⟨z23, e24, hm⟩ := ob hm
    refine Lw.t rfl (T.call rfl (p28 (K := [2, 3, 4, 5])  (o18.rd.sub (M := [2, 3, 4, 5]) rfl) (o19.rd.sub (M := [2, 3, 4, 5]) rfl) (o20.rd.sub (M := [2, 3, 4, 5]) rfl) (o21.rd.sub (M := [2, 3, 4, 5]) rfl) e24)) ?_
    rintro _ _ ⟨W25, rfl, l25, rfl⟩
    have a26 := a17.n l25
    refine Lw.eq rfl (Lw.g (vB ((z6 : Int) == (z23 : Int))) rfl (Lw.nil ?_))
    cases hm
    exact Cw.ret (ret1 rfl (Res.mk a26 rfl))
   ·replace hm := bf hm hc22
    refine Cw.skip (Cw.seq (Cw.region (Lw.m v1_4 rfl (Lw.m v2_4 rfl (Lw.m v3_4 rfl ?_)))))
    obtain ⟨z31, e32, hm⟩ := ob hm
    refine Lw.t rfl (T.call rfl (p33 (K := [3, 4, 5]) (k0 := 6) (o19.rd.sub (M := [3, 4, 5]) rfl) (o20.rd.sub (M := [3, 4, 5]) rfl) (o21.rd.sub (M := [3, 4, 5]) rfl) e32)) ?_
    rintro v0_33 _ ⟨W33, rfl, l33, ⟨_, rfl, f33_0⟩⟩
    have a34 := a17.n l33
    refine Lw.g v0_33 rfl (Lw.nil (Cw.seq (Cw.seq (Cw.region (Lw.g (vI 0) rfl (Lw.nil (Cw.block ?_)))))))
    obtain ⟨K44, hK44, hm⟩ := jn_e hm
    refine Cw.loop 49 108 [2, 9, 10, 11] (fun m l w => ∃ (y39 : Bool) (y40 : Int) (j41 j42 : Value) (W43 : CW), W43.w = w ∧ Le [] W33 W43 ∧ l = [vB y39, vI y40, j41, j42] ∧ Vm.laws_FnMemoLeft_l1 z2 z6 z31 K44 m y39 y40 = some r) (((z31.length : Int) - 0).toNat + 1) ⟨false, 0, undef, undef, W33, rfl, Le.refl _ _, rfl, hm⟩ ?_
    rintro m45 _ _ σ ⟨y39, y40, j41, j42, W43, rfl, l43, rfl, hm⟩
    obtain _ | m45 := m45
    ·cases hm
    unfold Vm.laws_FnMemoLeft_l1 at hm
    have a46 := a34.n l43
    have o47 := (o18.up l33 rfl).up l43 rfl
    have o48 := (o19.up l33 rfl).up l43 rfl
    have o49 := (o20.up l33 rfl).up l43 rfl
    have o50 := (o21.up l33 rfl).up l43 rfl
    have o51 := f33_0.up l43 rfl
    refine Cw.seq (Cw.seq (Cw.region (Lw.m (vI y40) rfl (Lw.m v0_33 rfl (Lw.ln z31 o51.rd rfl (Lw.lt rfl (Lw.nil (Cw.cond (b := decide ((y40 : Int) < ((z31.length : Int) : Int))) rfl (fun hc52 => ?_) (fun hc52 => ?_)))))))))
    ·replace hm := bt hm hc52
     refine Cw.skip ?_
     obtain ⟨K57, hK57, hm⟩ := jn_e hm
     refine Cw.join 55 108 [2, 10, 11] (fun l w => ∃ (y53 : Bool) (j54 j55 : Value) (W56 : CW), W56.w = w ∧ Le [] W43 W56 ∧ l = [vB y53, j54, j55] ∧ K57 y53 = some r) ?_ ?_
     ·rintro _ _ σ ⟨y53, j54, j55, W56, rfl, l56, rfl, hm⟩
      rw [hK57] at hm
      refine Cw.region (Lw.m (vI y40) rfl (Lw.add rfl (Lw.g (vI (w64 (y40 + 1))) rfl (Lw.nil (⟨?_, m45, Nat.lt_succ_self m45, ⟨y53, w64 (y40 + 1), j54, j55, W56, rfl, (l43.trans l56), rfl, hm⟩⟩)))))
      iterate 3 (refine Agree.up rfl ?_)
      iterate 3 (refine Agree.up rfl ?_)
      refine Agree.ov0 rfl ?_
      iterate 4 (refine Agree.up rfl ?_)
      iterate 4 (refine Agree.up rfl ?_)
      exact Agree.base
     ·refine Cw.block (Cw.seq (Cw.seq (Cw.region (Lw.m v0_33 rfl (Lw.m (vI y40) rfl ?_)))))
      obtain ⟨u64, e65, hm⟩ := ob hm
      refine Lw.r rfl (R.ix (α := Part) o51.rd e65 rfl rfl rfl) (Lw.fa rfl (Lw.r rfl (R.ld rfl rfl (Part.at0 (o51.rd.at_ e65)).bool) (Lw.r rfl (R.not rfl) (Lw.nil (Cw.cond (b := (!u64.Clash)) rfl (fun hc66 => ?_) (fun hc66 => ?_))))))
      ·replace hm := bt hm hc66
       refine Cw.exit (⟨?_, ⟨y39, j41, j42, W43, rfl, Le.refl _ _, rfl, hm⟩⟩)
       iterate 6 (refine Agree.up rfl ?_)
       exact Agree.refl _
      ·replace hm := bf hm hc66
       refine Cw.skip (Cw.seq (Cw.draw [] [(0, 0), (1, 0), (2, 0), (3, 0), (4, 0), (5, 1), (6, 0), (7, 0), (8, 0), (9, 0), (10, 1), (11, 0), (12, 0), (13, 0), (14, 0), (15, 1), (16, 0), (17, 2), (18, 0), (19, 0), (20, 0), (21, 0), (22, 0)] mixed (by kernel_rfl) fun W67 l67 => ?_))
       have a68 := a46.n l67
       have o73 := o51.up l67 rfl
       refine Mw.p rfl rfl (fun _ => R.mv (v := v0_4) rfl) (Mw.p rfl rfl (fun _ => R.mv (v := v0_33) rfl) (Mw.p rfl rfl (fun _ => R.mv (v := vI y40) rfl) ?_))
       obtain ⟨u74, e75, hm⟩ := ob hm
       refine Mw.p rfl rfl (fun _ => R.ix (α := Part) o73.rd e75 rfl rfl rfl) (Mw.p rfl rfl (fun _ => R.fa rfl) ?_)
       obtain ⟨v76, c77, r78⟩ := (Part.at2 (o73.rd.at_ e75)).cell rfl
       refine Mw.q rfl rfl (fun _ c => R.ld rfl rfl (cl_cell (Part.at2 (o73.rd.at_ e75)).1 rfl c77 c)) (Mw.p rfl rfl (fun _ => R.mv (v := v0_33) rfl) (Mw.p rfl rfl (fun _ => R.mv (v := vI y40) rfl) ?_))
       obtain ⟨u79, e80, hm⟩ := ob hm
       refine Mw.p rfl rfl (fun _ => R.ix (α := Part) o73.rd e80 rfl rfl rfl) (Mw.p rfl rfl (fun _ => R.fa rfl) ?_)
       obtain ⟨v81, c82, r83⟩ := (Part.at3 (o73.rd.at_ e80)).cell rfl
       refine Mw.q rfl rfl (fun _ c => R.ld rfl rfl (cl_cell (Part.at3 (o73.rd.at_ e80)).1 rfl c82 c)) (Mw.p rfl rfl (fun _ => R.mv (v := v0_33) rfl) (Mw.p rfl rfl (fun _ => R.mv (v := vI y40) rfl) ?_))
       obtain ⟨u84, e85, hm⟩ := ob hm
       refine Mw.p rfl rfl (fun _ => R.ix (α := Part) o73.rd e85 rfl rfl rfl) (Mw.p rfl rfl (fun _ => R.fa rfl) ?_)
       obtain ⟨v86, c87, r88⟩ := (Part.at4 (o73.rd.at_ e85)).cell rfl
       refine Mw.q rfl rfl (fun _ c => R.ld rfl rfl (cl_cell (Part.at4 (o73.rd.at_ e85)).1 rfl c87 c)) (Mw.p rfl rfl (fun _ => R.bd (zs := [.slice none 0 0, .slice none 0 0, .slice none 0 0, .slice none 0 0]) (cs := [v76, v81, v86, .slice none 0 0]) [(0, v76), (1, v81), (2, v86)] rfl rfl rfl (bp_cons r78.oc rfl (bp_cons r83.oc rfl (bp_cons r88.oc rfl bp_nil)))) ?_)
       obtain ⟨z89, e90, hm⟩ := ob hm
       refine Mw.t rfl rfl (T.call rfl (p18 (K := [0, 2, 6]) (k0 := 7) ((o47.up l67 rfl).rd.sub (M := [0, 2, 6]) rfl) ((Memo.rd (K := [0, 6]) u74.Old u79.One u84.Two ([] : List Str) (r78.sub (M := [0, 6]) rfl) (r83.sub (M := [0, 6]) rfl) (r88.sub (M := [0, 6]) rfl) (rdN (K := [0, 6]))).sub (M := [0, 2, 6]) rfl) e90)) ?_
       rintro _ _ ⟨W91, rfl, l91, ⟨v0_91, rfl, f91_0⟩⟩
       have a92 := a68.n l91
       have o94 := (o48.up l67 rfl).up l91 rfl
       have o95 := (o49.up l67 rfl).up l91 rfl
       have o96 := (o50.up l67 rfl).up l91 rfl
       refine ⟨⟨_, rfl, (l91.sub (M := []) rfl)⟩, ?_⟩
       refine Mw.p rfl rfl (fun _ => R.mv (v := .tuple [v0_91, vB z89.2].toArray) rfl) (Mw.p rfl rfl (fun _ => R.ext (vs := [v0_91, vB z89.2]) (v := v0_91) rfl rfl) (Mw.p rfl rfl (fun _ => R.ext (vs := [v0_91, vB z89.2]) (v := vB z89.2) rfl rfl) (Mw.p rfl rfl (fun _ => R.as (v := v0_91) rfl) (Mw.p rfl rfl (fun _ => R.as (v := vB z89.2) rfl) (Mw.nil (Cw.seq ?_))))))
       obtain ⟨K100, hK100, hm⟩ := jn_e hm
       refine Cw.join 82 91 [91] (fun l w => ∃ (y98 : Bool) (W99 : CW), W99.w = w ∧ Le [] W91 W99 ∧ l = [vB y98] ∧ K100 y98 = some r) ?_ ?_
       ·rintro _ _ σ ⟨y98, W99, rfl, l99, rfl, hm⟩
        rw [hK100] at hm
        have a101 := a92.n l99
        refine Cw.cond (b := y98) rfl (fun hc108 => ?_) (fun hc108 => ?_)
        ·replace hm := bt hm hc108
         refine Cw.seq (Cw.region (Lw.g (vB false) rfl (Lw.nil ?_)))
         cases hm
         exact Cw.ret (ret1 rfl (Res.mk a101 rfl))
        ·replace hm := bf hm hc108
         refine Cw.skip ?_
         obtain ⟨K111, hK111, hm⟩ := jn_e hm
         refine Cw.join 92 108 [108] (fun l w => ∃ (y109 : Bool) (W110 : CW), W110.w = w ∧ Le [] W99 W110 ∧ l = [vB y109] ∧ K111 y109 = some r) ?_ ?_
         ·rintro _ _ σ ⟨y109, W110, rfl, l110, rfl, hm⟩
          rw [hK111] at hm
          have a112 := a101.n l110
          refine Cw.cond (b := y109) rfl (fun hc119 => ?_) (fun hc119 => ?_)
          ·replace hm := bt hm hc119
           refine Cw.seq (Cw.region (Lw.g (vB false) rfl (Lw.nil ?_)))
           cases hm
           exact Cw.ret (ret1 rfl (Res.mk a112 rfl))
          ·replace hm := bf hm hc119
           refine Cw.skip (⟨?_, ⟨y39, v0_91, vB z89.2, W110, rfl, (l67.trans (l91.trans (l99.trans l110))), rfl, hm⟩⟩)
           iterate 1 (refine Agree.up rfl ?_)
           refine Agree.ov0 rfl ?_
           iterate 1 (refine Agree.up rfl ?_)
           refine Agree.ov0 rfl ?_
           iterate 29 (refine Agree.up rfl ?_)
           exact Agree.refl _
         ·refine Cw.region (Lw.m (vB z89.2) rfl (Lw.m (vB z89.2) rfl (bsplit z89.2 (fun hc120 => ?_) (fun hc120 => ?_))))
          ·replace hm := bt hm hc120
           refine Lw.want' hc120 rfl rfl rfl rfl (Lw.m v0_91 rfl (Lw.want' hc120 rfl rfl rfl rfl (Lw.ln z89.1 (f91_0.up l99 rfl).rd rfl (Lw.want' hc120 rfl rfl rfl rfl (Lw.m v0_4 rfl (Lw.want' hc120 rfl rfl rfl rfl (Lw.ln z2.1 (((o47.up l67 rfl).up l91 rfl).up l99 rfl).rd rfl (Lw.want' hc120 rfl rfl rfl rfl (Lw.gt rfl (Lw.p hc120 (vB (decide (((z2.1.length : Int) : Int) < ((z89.1.length : Int) : Int)))) rfl (Lw.m (vB (decide (((z2.1.length : Int) : Int) < ((z89.1.length : Int) : Int)))) rfl (bsplit (decide (((z2.1.length : Int) : Int) < ((z89.1.length : Int) : Int))) (fun hc121 => ?_) (fun hc121 => ?_)))))))))))))
           ·replace hm := bt hm hc121
            refine Lw.want' hc121 rfl rfl rfl rfl (Lw.m v0_91 rfl (Lw.want' hc121 rfl rfl rfl rfl (Lw.m v1_4 rfl (Lw.want' hc121 rfl rfl rfl rfl (Lw.m v2_4 rfl (Lw.want' hc121 rfl rfl rfl rfl (Lw.m v3_4 rfl (Lw.want' hc121 rfl rfl rfl rfl ?_))))))))
            obtain ⟨z122, e123, hm⟩ := ob hm
            refine Lw.t rfl (T.call rfl (p30 (K := [3, 4, 5, 7])  ((f91_0.up l99 rfl).rd.sub (M := [3, 4, 5, 7]) rfl) ((o94.up l99 rfl).rd.sub (M := [3, 4, 5, 7]) rfl) ((o95.up l99 rfl).rd.sub (M := [3, 4, 5, 7]) rfl) ((o96.up l99 rfl).rd.sub (M := [3, 4, 5, 7]) rfl) e123)) ?_
            rintro _ _ ⟨W124, rfl, l124, rfl⟩
            refine Lw.want' hc121 rfl rfl rfl rfl (Lw.m (vI z6) rfl (Lw.want' hc121 rfl rfl rfl rfl (Lw.ge rfl (Lw.p hc121 (vB (decide ((z6 : Int) ≤ (z122 : Int)))) rfl (Lw.nil (⟨?_, ⟨decide ((z6 : Int) ≤ (z122 : Int)), W124, rfl, l124, rfl, hm⟩⟩))))))
            iterate 17 (refine Agree.up rfl ?_)
            exact Agree.refl _
           ·replace hm := bf hm hc121
            refine Lw.pass' hc121 rfl rfl rfl rfl rfl rfl rfl (Lw.pass' hc121 rfl rfl rfl rfl rfl rfl rfl (Lw.pass' hc121 rfl rfl rfl rfl rfl rfl rfl (Lw.pass' hc121 rfl rfl rfl rfl rfl rfl rfl (Lw.pass' hc121 rfl rfl rfl rfl rfl rfl rfl (Lw.pass' hc121 rfl rfl rfl rfl rfl rfl rfl (Lw.pass' hc121 rfl rfl rfl rfl rfl rfl rfl (Lw.p hc121 (vB false) rfl (Lw.nil (⟨?_, ⟨false, W99, rfl, Le.refl _ _, rfl, hm⟩⟩)))))))))
            iterate 17 (refine Agree.up rfl ?_)
            exact Agree.refl _
          ·replace hm := bf hm hc120
           refine Lw.pass' hc120 rfl rfl rfl rfl rfl rfl rfl (Lw.pass' hc120 rfl rfl rfl rfl rfl rfl rfl (Lw.pass' hc120 rfl rfl rfl rfl rfl rfl rfl (Lw.pass' hc120 rfl rfl rfl rfl rfl rfl rfl (Lw.pass' hc120 rfl rfl rfl rfl rfl rfl rfl (Lw.p hc120 (vB false) rfl (Lw.m (vB false) rfl (Lw.pass' rfl rfl rfl rfl rfl rfl rfl rfl (Lw.pass' rfl rfl rfl rfl rfl rfl rfl rfl (Lw.pass' rfl rfl rfl rfl rfl rfl rfl rfl (Lw.pass' rfl rfl rfl rfl rfl rfl rfl rfl (Lw.pass' rfl rfl rfl rfl rfl rfl rfl rfl (Lw.pass' rfl rfl rfl rfl rfl rfl rfl rfl (Lw.pass' rfl rfl rfl rfl rfl rfl rfl rfl (Lw.p rfl (vB false) rfl (Lw.nil (⟨?_, ⟨false, W99, rfl, Le.refl _ _, rfl, hm⟩⟩))))))))))))))))
           iterate 17 (refine Agree.up rfl ?_)
           exact Agree.refl _
       ·refine Cw.region (Lw.m (vB z89.2) rfl (Lw.m (vB z89.2) rfl (bsplit z89.2 (fun hc132 => ?_) (fun hc132 => ?_))))
        ·replace hm := bt hm hc132
         refine Lw.want' hc132 rfl rfl rfl rfl (Lw.m v0_91 rfl (Lw.want' hc132 rfl rfl rfl rfl (Lw.m v1_4 rfl (Lw.want' hc132 rfl rfl rfl rfl (Lw.m v2_4 rfl (Lw.want' hc132 rfl rfl rfl rfl (Lw.m v3_4 rfl (Lw.want' hc132 rfl rfl rfl rfl ?_))))))))
         obtain ⟨z133, e134, hm⟩ := ob hm
         refine Lw.t rfl (T.call rfl (p30 (K := [3, 4, 5, 7])  (f91_0.rd.sub (M := [3, 4, 5, 7]) rfl) (o94.rd.sub (M := [3, 4, 5, 7]) rfl) (o95.rd.sub (M := [3, 4, 5, 7]) rfl) (o96.rd.sub (M := [3, 4, 5, 7]) rfl) e134)) ?_
         rintro _ _ ⟨W135, rfl, l135, rfl⟩
         refine Lw.want' hc132 rfl rfl rfl rfl (Lw.m (vI z6) rfl (Lw.want' hc132 rfl rfl rfl rfl (Lw.gt rfl (Lw.p hc132 (vB (decide ((z6 : Int) < (z133 : Int)))) rfl (Lw.nil (⟨?_, ⟨decide ((z6 : Int) < (z133 : Int)), W135, rfl, l135, rfl, hm⟩⟩))))))
         iterate 10 (refine Agree.up rfl ?_)
         exact Agree.refl _
        ·replace hm := bf hm hc132
         refine Lw.pass' hc132 rfl rfl rfl rfl rfl rfl rfl (Lw.pass' hc132 rfl rfl rfl rfl rfl rfl rfl (Lw.pass' hc132 rfl rfl rfl rfl rfl rfl rfl (Lw.pass' hc132 rfl rfl rfl rfl rfl rfl rfl (Lw.pass' hc132 rfl rfl rfl rfl rfl rfl rfl (Lw.pass' hc132 rfl rfl rfl rfl rfl rfl rfl (Lw.pass' hc132 rfl rfl rfl rfl rfl rfl rfl (Lw.p hc132 (vB false) rfl (Lw.nil (⟨?_, ⟨false, W91, rfl, Le.refl _ _, rfl, hm⟩⟩)))))))))
         iterate 10 (refine Agree.up rfl ?_)
         exact Agree.refl _
    ·replace hm := bf hm hc52
     refine Cw.exit ?_
     rw [hK44] at hm
     obtain ⟨K145, hK145, hm⟩ := jn_e hm
     refine Cw.join 109 126 [2] (fun l w => ∃ (y143 : Bool) (W144 : CW), W144.w = w ∧ Le [] W43 W144 ∧ l = [vB y143] ∧ K145 y143 = some r) ?_ ?_
     ·rintro _ _ σ ⟨y143, W144, rfl, l144, rfl, hm⟩
      rw [hK145] at hm
      have a146 := a46.n l144
      cases hm
      exact Cw.ret (ret1 rfl (Res.mk a146 rfl))
     ·refine Cw.region (Lw.m v1_4 rfl (Lw.m v2_4 rfl (Lw.m v3_4 rfl ?_)))
      obtain ⟨z152, e153, hm⟩ := ob hm
      refine Lw.t rfl (T.call rfl (p30 (K := [0, 3, 4, 5])  (rdN (K := [0, 3, 4, 5])) (o48.rd.sub (M := [0, 3, 4, 5]) rfl) (o49.rd.sub (M := [0, 3, 4, 5]) rfl) (o50.rd.sub (M := [0, 3, 4, 5]) rfl) e153)) ?_
      rintro _ _ ⟨W154, rfl, l154, rfl⟩
      refine Lw.m v1_4 rfl (Lw.m v2_4 rfl (Lw.m v3_4 rfl ?_))
      obtain ⟨z161, e162, hm⟩ := ob hm
      refine Lw.t rfl (T.call rfl (p36 (K := [3, 4, 5])  ((o48.up l154 rfl).rd.sub (M := [3, 4, 5]) rfl) ((o49.up l154 rfl).rd.sub (M := [3, 4, 5]) rfl) ((o50.up l154 rfl).rd.sub (M := [3, 4, 5]) rfl) e162)) ?_
      rintro _ _ ⟨W163, rfl, l163, rfl⟩
      refine Lw.eq rfl (Lw.m (vB ((z152 : Int) == (z161 : Int))) rfl (bsplit ((z152 : Int) == (z161 : Int)) (fun hc170 => ?_) (fun hc170 => ?_)))
      ·replace hm := bt hm hc170
       refine Lw.want' hc170 rfl rfl rfl rfl (Lw.m v0_4 rfl (Lw.want' hc170 rfl rfl rfl rfl (Lw.m v1_4 rfl (Lw.want' hc170 rfl rfl rfl rfl (Lw.m v3_4 rfl (Lw.want' hc170 rfl rfl rfl rfl (Lw.m v2_4 rfl (Lw.want' hc170 rfl rfl rfl rfl ?_))))))))
       obtain ⟨z171, e172, hm⟩ := ob hm
       refine Lw.t rfl (T.call rfl (p30 (K := [2, 3, 4, 5])  (((o47.up l154 rfl).up l163 rfl).rd.sub (M := [2, 3, 4, 5]) rfl) (((o48.up l154 rfl).up l163 rfl).rd.sub (M := [2, 3, 4, 5]) rfl) (((o50.up l154 rfl).up l163 rfl).rd.sub (M := [2, 3, 4, 5]) rfl) (((o49.up l154 rfl).up l163 rfl).rd.sub (M := [2, 3, 4, 5]) rfl) e172)) ?_
       rintro _ _ ⟨W173, rfl, l173, rfl⟩
       refine Lw.want' hc170 rfl rfl rfl rfl (Lw.m (vI z6) rfl (Lw.want' hc170 rfl rfl rfl rfl (Lw.eq rfl (Lw.p hc170 (vB ((z171 : Int) == (z6 : Int))) rfl (Lw.g (vB ((z171 : Int) == (z6 : Int))) rfl (Lw.nil (⟨?_, ⟨((z171 : Int) == (z6 : Int)), W173, rfl, (l154.trans (l163.trans l173)), rfl, hm⟩⟩)))))))
       iterate 19 (refine Agree.up rfl ?_)
       exact Agree.refl _
      ·replace hm := bf hm hc170
       refine Lw.pass' hc170 rfl rfl rfl rfl rfl rfl rfl (Lw.pass' hc170 rfl rfl rfl rfl rfl rfl rfl (Lw.pass' hc170 rfl rfl rfl rfl rfl rfl rfl (Lw.pass' hc170 rfl rfl rfl rfl rfl rfl rfl (Lw.pass' hc170 rfl rfl rfl rfl rfl rfl rfl (Lw.pass' hc170 rfl rfl rfl rfl rfl rfl rfl (Lw.pass' hc170 rfl rfl rfl rfl rfl rfl rfl (Lw.p hc170 (vB false) rfl (Lw.g (vB false) rfl (Lw.nil (⟨?_, ⟨false, W163, rfl, (l154.trans l163), rfl, hm⟩⟩))))))))))
       iterate 19 (refine Agree.up rfl ?_)
       exact Agree.refl _
  ·refine Cw.region (Lw.m (vI z6) rfl (Lw.m v0_4 rfl (Lw.m v1_4 rfl (Lw.m v2_4 rfl (Lw.m v3_4 rfl ?_)))))
   obtain ⟨z180, e181, hm⟩ := ob hm
   refine Lw.t rfl (T.call rfl (p28 (K := [2, 3, 4, 5])  ((f4_0.up l8 rfl).rd.sub (M := [2, 3, 4, 5]) rfl) ((f4_1.up l8 rfl).rd.sub (M := [2, 3, 4, 5]) rfl) ((f4_2.up l8 rfl).rd.sub (M := [2, 3, 4, 5]) rfl) ((f4_3.up l8 rfl).rd.sub (M := [2, 3, 4, 5]) rfl) e181)) ?_
   rintro _ _ ⟨W182, rfl, l182, rfl⟩
   refine Lw.ne rfl (Lw.m (vB ((z6 : Int) != (z180 : Int))) rfl (bsplit ((z6 : Int) != (z180 : Int)) (fun hc188 => ?_) (fun hc188 => ?_)))
   ·replace hm := bt hm hc188
    refine Lw.pass' hc188 rfl rfl rfl rfl rfl rfl rfl (Lw.pass' hc188 rfl rfl rfl rfl rfl rfl rfl (Lw.p hc188 (vB true) rfl (Lw.nil (⟨?_, ⟨true, W182, rfl, l182, rfl, hm⟩⟩))))
    iterate 11 (refine Agree.up rfl ?_)
    exact Agree.refl _
   ·replace hm := bf hm hc188
    refine Lw.want' hc188 rfl rfl rfl rfl (Lw.m (vI z6) rfl (Lw.want' hc188 rfl rfl rfl rfl (Lw.lt rfl (Lw.p hc188 (vB (decide ((z6 : Int) < (0 : Int)))) rfl (Lw.nil (⟨?_, ⟨decide ((z6 : Int) < (0 : Int)), W182, rfl, l182, rfl, hm⟩⟩))))))
    iterate 11 (refine Agree.up rfl ?_)
    exact Agree.refl _

theorem p9 {W : CW} {K : List Nat} {x0 : List Byte} {v0_ : Value} {r : Bool} (h0 : Rd W K [v0_] x0) (hm : Vm.laws_FnMemoLeft x0 = some r) : CallR Try.prog 9 [v0_].toArray W.w (Res W [] fun W' v => v = vB r) :=
 (c9 (V := W.view K []) (h0.view _) hm).ad (fk 0) fun _ _ e => e

end Go.Sx
