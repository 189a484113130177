/- Walks: each function answers as its model, printed by a program of ours. Conditions: the arguments read as they are given. -/
import Derived.Test.YtmjjhnahdmlmaaaGreatDoorXTs
import Derived.Test.YtmjjhnahdmlmaaaGreatDoorXMd
import Derived.Test.YtmjjhnahdmlmaaaGreatDoorXW0
import Derived.Test.YtmjjhnahdmlmaaaGreatDoorXW1
import Derived.Test.YtmjjhnahdmlmaaaGreatDoorXW2
import Derived.Test.YtmjjhnahdmlmaaaGreatDoorXW3
import Derived.Test.YtmjjhnahdmlmaaaGreatDoorXW4
import Derived.Test.YtmjjhnahdmlmaaaGreatDoorXW6
namespace Go.Sx
open Go Go.Proofs Go.Vm Rp
set_option linter.unusedVariables false
set_option linter.unusedSimpArgs false

theorem c98 {V : CW} {x0 : Vm.Repo} {v0_0_ : Value} {v0_1_ : Value} {x1 : Str} {x2 : Str} {x3 : Int} {r : Vm.Repo × Int} (h0 : Rd V [0] [v0_0_, v0_1_] x0) (hm : Vm.spec_l9Unite x0 x1 x2 x3 = some r) : CallR Tryz.prog 98 [.agg [v0_0_, v0_1_].toArray, vS x1, vS x2, vI x3].toArray V.w (Res V LL fun Wf v => ∃ (u0_0 : Value) (u0_1 : Value), v = .tuple [.agg [u0_0, u0_1].toArray, vI r.2].toArray ∧ Rd Wf [0] [u0_0] r.1.Commits ∧ Rd Wf [0] [u0_1] r.1.Heads) := by
 unfold Vm.spec_l9Unite at hm
 obtain ⟨w0_0, w0_1, he0, h0_0, h0_1⟩ := Repo.split h0
 simp only [List.cons.injEq, and_true, true_and] at he0
 obtain ⟨rfl, rfl⟩ := he0
 obtain ⟨W0, hW0⟩ : ∃ W, W = V := ⟨V, rfl⟩
 subst hW0
 refine CallR.of Tryz.func98 rfl rfl rfl rfl (Cw.seq (Cw.region (Lw.t rfl (T.box 2 (v := .agg [v0_0_, v0_1_].toArray) (cs := [v0_0_, v0_1_]) rfl rfl) ?_)))
 rintro _ _ ⟨g1, W1, rfl, rfl, l1, b1⟩
 have a2 := l1.o
 refine Lw.t rfl (T.alloc 3 (cs := [.slice none 0 0, .slice none 0 0]) rfl) ?_
 rintro _ _ ⟨g3, W3, rfl, rfl, l3, b3⟩
 have a4 := a2.n l3
 refine Lw.g (vI 0) rfl (Lw.nil (Cw.seq (Cw.region (Lw.r rfl (R.lda (cs := [v0_0_, v0_1_]) (b1.up l3 rfl).cells rfl rfl) (Lw.m (vS x1) rfl ?_)))))
 obtain ⟨z8, e9, hm⟩ := ob hm
 refine Lw.t rfl (T.call rfl (p77 (K := [0])  (Repo.rd (K := [0]) x0.Commits x0.Heads (h0_0.ul a4) (h0_1.ul a4)) e9)) ?_
 rintro _ _ ⟨W10, rfl, l10, rfl⟩
 have a11 := a4.n l10
 have b12 := (b1.up l3 rfl).up l10 rfl
 refine Lw.g (vI z8) rfl (Lw.nil (Cw.seq (Cw.seq (Cw.region (Lw.r rfl (R.lda (cs := [v0_0_, v0_1_]) b12.cells rfl rfl) (Lw.m (vI z8) rfl ?_))))))
 obtain ⟨z16, e17, hm⟩ := ob hm
 refine Lw.t rfl (T.call rfl (p40 (K := [0]) (k0 := 4) (Repo.rd (K := [0]) x0.Commits x0.Heads (h0_0.ul a11) (h0_1.ul a11)) e17)) ?_
 rintro v0_18 _ ⟨W18, rfl, l18, ⟨_, rfl, f18_0⟩⟩
 have a19 := a11.n l18
 refine Lw.m (vI x3) rfl ?_
 obtain ⟨z22, e23, hm⟩ := ob hm
 refine Lw.t rfl (T.call rfl (p39 (K := [4])  f18_0.rd e23)) ?_
 rintro _ _ ⟨W24, rfl, l24, rfl⟩
 have a25 := a19.n l24
 have b27 := (b12.up l18 rfl).up l24 rfl
 have b28 := ((b3.up l10 rfl).up l18 rfl).up l24 rfl
 refine Lw.nil (Cw.cond (b := z22) rfl (fun hc29 => ?_) (fun hc29 => ?_))
 ·replace hm := bt hm hc29
  refine Cw.seq (Cw.region (Lw.r rfl (R.lda (cs := [v0_0_, v0_1_]) b27.cells rfl rfl) (Lw.u (T.sta (vs := [v0_0_, v0_1_]) b28 rfl rfl (oc_cons h0_0.oc (oc_cons h0_1.oc oc_nil)) rfl rfl) ?_)))
  rintro _ _ ⟨W30, rfl, l30, b30⟩
  have a31 := a25.t l30 rfl
  refine Lw.g (vI 2) rfl (Lw.nil ?_)
  cases hm
  exact Cw.ret (retA2 rfl b30 rfl (Res.mk a31 ⟨v0_0_, v0_1_, rfl, (h0_0.ul a31), (h0_1.ul a31)⟩))
 ·replace hm := bf hm hc29
  refine Cw.skip (Cw.seq (Cw.seq (Cw.region (Lw.r rfl (R.lda (cs := [v0_0_, v0_1_]) b27.cells rfl rfl) (Lw.m (vI x3) rfl ?_)))))
  obtain ⟨z38, e39, hm⟩ := ob hm
  refine Lw.t rfl (T.call rfl (p40 (K := [0]) (k0 := 5) (Repo.rd (K := [0]) x0.Commits x0.Heads (h0_0.ul a25) (h0_1.ul a25)) e39)) ?_
  rintro v0_40 _ ⟨W40, rfl, l40, ⟨_, rfl, f40_0⟩⟩
  have a41 := a25.n l40
  refine Lw.m (vI z8) rfl ?_
  obtain ⟨z45, e46, hm⟩ := ob hm
  refine Lw.t rfl (T.call rfl (p39 (K := [5])  f40_0.rd e46)) ?_
  rintro _ _ ⟨W47, rfl, l47, rfl⟩
  have a48 := a41.n l47
  have b51 := (b27.up l40 rfl).up l47 rfl
  have b52 := (b28.up l40 rfl).up l47 rfl
  refine Lw.nil (Cw.cond (b := z45) rfl (fun hc53 => ?_) (fun hc53 => ?_))
  ·replace hm := bt hm hc53
   refine Cw.seq (Cw.region (Lw.r rfl (R.lda (cs := [v0_0_, v0_1_]) b51.cells rfl rfl) (Lw.m (vS x1) rfl (Lw.m (vI x3) rfl ?_))))
   obtain ⟨z56, e57, hm⟩ := ob hm
   refine Lw.t rfl (T.call rfl (p97 (K := [0])  (Repo.rd (K := [0]) x0.Commits x0.Heads (h0_0.ul a48) (h0_1.ul a48)) e57)) ?_
   rintro _ _ ⟨W58, rfl, l58, ⟨v0_0_58, v0_1_58, rfl, f58_0, f58_1⟩⟩
   have s59 := f58_0.sub (M := [0]) rfl
   have s60 := f58_1.sub (M := [0]) rfl
   have a61 := a48.n l58
   refine Lw.u (T.sta (vs := [v0_0_58, v0_1_58]) (b52.up l58 rfl) rfl rfl (oc_cons s59.oc (oc_cons s60.oc oc_nil)) rfl rfl) ?_
   rintro _ _ ⟨W66, rfl, l66, b66⟩
   have a67 := l66.s rfl
   refine Lw.g (vI 3) rfl (Lw.nil ?_)
   cases hm
   exact Cw.ret (retA2 rfl b66 rfl (Res.mk (a61.trans a67) ⟨v0_0_58, v0_1_58, rfl, (s59.ul a67), (s60.ul a67)⟩))
  ·replace hm := bf hm hc53
   refine Cw.skip (Cw.seq (Cw.draw [] [(0, 1), (1, 0), (2, 0), (4, 0), (5, 1), (6, 0), (7, 0), (8, 0), (9, 1), (10, 0), (11, 1), (12, 0), (13, 0), (14, 0), (15, 1), (3, 2), (16, 2), (17, 0), (18, 0), (19, 0), (20, 0), (21, 0)] mixed (by kernel_rfl) fun W73 l73 => ?_))
   have a74 := a48.n l73
   have b77 := b51.up l73 rfl
   refine Mw.q rfl rfl (fun _ c => R.lda (cs := [v0_0_, v0_1_]) (b77.clcs rfl c) rfl rfl) (Mw.p rfl rfl (fun _ => R.mv (v := vI z8) rfl) (Mw.p rfl rfl (fun _ => R.mv (v := vI x3) rfl) (Mw.p rfl rfl (fun _ => R.fa rfl) (Mw.q rfl rfl (fun _ c => R.ld (v := v0_0_) rfl rfl (b77.clc rfl rfl c)) (Mw.p rfl rfl (fun _ => R.mv (v := vI z8) rfl) ?_)))))
   obtain ⟨u79, e80, hm⟩ := ob hm
   have s81 := h0_0.ul a74
   refine Mw.p rfl rfl (fun _ => R.ix (α := Commit) s81 e80 rfl rfl rfl) (Mw.p rfl rfl (fun _ => R.fa rfl) ?_)
   obtain ⟨v82, c83, r84⟩ := (Commit.at2 (s81.at_ e80)).cell rfl
   refine Mw.q rfl rfl (fun _ c => R.ld rfl rfl (cl_cell (Commit.at2 (s81.at_ e80)).1 rfl c83 c)) (Mw.p rfl rfl (fun _ => R.fa rfl) (Mw.q rfl rfl (fun _ c => R.ld (v := v0_0_) rfl rfl (b77.clc rfl rfl c)) (Mw.p rfl rfl (fun _ => R.mv (v := vI x3) rfl) ?_)))
   obtain ⟨u85, e86, hm⟩ := ob hm
   refine Mw.p rfl rfl (fun _ => R.ix (α := Commit) s81 e86 rfl rfl rfl) (Mw.p rfl rfl (fun _ => R.fa rfl) ?_)
   obtain ⟨v87, c88, r89⟩ := (Commit.at2 (s81.at_ e86)).cell rfl
   refine Mw.q rfl rfl (fun _ c => R.ld rfl rfl (cl_cell (Commit.at2 (s81.at_ e86)).1 rfl c88 c)) ?_
   obtain ⟨z91, e92, hm⟩ := ob hm
   refine Mw.t rfl rfl (T.call rfl (p109 (K := [0])  (Repo.rd (K := [0]) x0.Commits x0.Heads s81 (h0_1.ul a74)) e92)) ?_
   rintro v0_93 _ ⟨W93, rfl, l93, ⟨_, rfl, f93_0⟩⟩
   have s94 := f93_0.sub (M := [0]) rfl
   have a95 := l93.o
   refine ⟨⟨_, rfl, (l93.sub (M := []) rfl)⟩, ?_⟩
   obtain ⟨z102, e103, hm⟩ := ob hm
   refine Mw.t rfl rfl (T.call rfl (p108 (K := [0]) (k0 := 6) (k1 := 7) s94 (r84.ul a95) (r89.ul a95) e103)) ?_
   rintro _ _ ⟨W104, rfl, l104, ⟨v0_104, v1_104, rfl, f104_0, f104_1⟩⟩
   have a105 := (a74.trans a95).n l104
   have b108 := (b77.up l93 rfl).up l104 rfl
   have b109 := ((b52.up l73 rfl).up l93 rfl).up l104 rfl
   refine ⟨⟨_, rfl, ((l93.sub (M := []) rfl).trans (l104.sub (M := []) rfl))⟩, ?_⟩
   refine Mw.p rfl rfl (fun _ => R.mv (v := .tuple [v0_104, v1_104].toArray) rfl) (Mw.p rfl rfl (fun _ => R.ext (vs := [v0_104, v1_104]) (v := v0_104) rfl rfl) (Mw.p rfl rfl (fun _ => R.ext (vs := [v0_104, v1_104]) (v := v1_104) rfl rfl) (Mw.p rfl rfl (fun _ => R.as (v := v0_104) rfl) (Mw.p rfl rfl (fun _ => R.as (v := v1_104) rfl) (Mw.nil (Cw.seq (Cw.seq (Cw.region (Lw.m v1_104 rfl (Lw.ln z102.2 f104_1.rd rfl (Lw.gt rfl (Lw.nil (Cw.cond (b := decide ((0 : Int) < ((z102.2.length : Int) : Int))) rfl (fun hc110 => ?_) (fun hc110 => ?_))))))))))))))
   ·replace hm := bt hm hc110
    refine Cw.seq (Cw.region (Lw.r rfl (R.lda (cs := [v0_0_, v0_1_]) b108.cells rfl rfl) (Lw.u (T.sta (vs := [v0_0_, v0_1_]) b109 rfl rfl (oc_cons h0_0.oc (oc_cons h0_1.oc oc_nil)) rfl rfl) ?_)))
    rintro _ _ ⟨W111, rfl, l111, b111⟩
    have a112 := a105.t l111 rfl
    refine Lw.g (vI 4) rfl (Lw.nil ?_)
    cases hm
    exact Cw.ret (retA2 rfl b111 rfl (Res.mk a112 ⟨v0_0_, v0_1_, rfl, (h0_0.ul a112), (h0_1.ul a112)⟩))
   ·replace hm := bf hm hc110
    refine Cw.skip (Cw.seq (Cw.region (Lw.r rfl (R.lda (cs := [v0_0_, v0_1_]) b108.cells rfl rfl) (Lw.m (vS x1) rfl (Lw.m (vI z8) rfl (Lw.m (vI x3) rfl (Lw.t rfl (T.bsS (α := Int) (xs := [z8, x3]) 8 [] (W := W104) [vI z8, vI x3] (Each.cons ((rdI _)) (Each.cons ((rdI _)) Each.nil)) rfl) ?_)))))))
    rintro v120 _ ⟨W120, rfl, l120, o120⟩
    have a121 := a105.n l120
    have o124 := f104_0.up l120 rfl
    refine Lw.m (vS x2) rfl (Lw.m v0_104 rfl (Lw.r rfl (R.bd (zs := [.slice none 0 0, vS ([] : Str), .slice none 0 0]) (cs := [v120, vS x2, v0_104]) [(0, v120), (1, vS x2), (2, v0_104)] rfl rfl rfl (bp_cons o120.oc rfl (bp_cons rfl rfl (bp_cons o124.oc rfl bp_nil)))) ?_))
    obtain ⟨z130, e131, hm⟩ := ob hm
    refine Lw.t rfl (T.call rfl (p107 (K := [0, 6, 8])  (x2 := (Vm.Commit.mk ([z8, x3] : List Int) x2 z102.1)) ((Repo.rd (K := [0]) x0.Commits x0.Heads (h0_0.ul a121) (h0_1.ul a121)).sub (M := [0, 6, 8]) rfl) ((Commit.rd (K := [6, 8]) ([z8, x3] : List Int) x2 z102.1 (o120.rd.sub (M := [6, 8]) rfl) (o124.rd.sub (M := [6, 8]) rfl)).sub (M := [0, 6, 8]) rfl) e131)) ?_
    rintro _ _ ⟨W132, rfl, l132, ⟨v0_0_132, v0_1_132, rfl, f132_0, f132_1⟩⟩
    have s133 := f132_0.sub (M := [0, 6, 8]) rfl
    have s134 := f132_1.sub (M := [0, 6, 8]) rfl
    have a135 := a121.n l132
    refine Lw.t rfl (T.alloc 9 (cs := [.slice none 0 0, .slice none 0 0]) rfl) ?_
    rintro _ _ ⟨g143, W143, rfl, rfl, l143, b143⟩
    have a144 := a135.n l143
    refine Lw.u (T.sta (vs := [v0_0_132, v0_1_132]) b143 rfl rfl (oc_cons s133.oc (oc_cons s134.oc oc_nil)) rfl rfl) ?_
    rintro _ _ ⟨W152, rfl, l152, b152⟩
    have a153 := a144.t l152 rfl
    refine Lw.nil (Cw.seq (Cw.seq (Cw.region (Lw.r rfl (R.lda (cs := [v0_0_132, v0_1_132]) b152.cells rfl rfl) ?_))))
    have s161 := s133.up ((l143.sub (M := [9]) rfl).trans (l152.sub (M := [9]) rfl)) rfl
    have s162 := s134.up ((l143.sub (M := [9]) rfl).trans (l152.sub (M := [9]) rfl)) rfl
    obtain ⟨z163, e164, hm⟩ := ob hm
    refine Lw.t rfl (T.call rfl (p30 (K := [0, 6, 8])  (Repo.rd (K := [0, 6, 8]) z130.Commits z130.Heads s161 s162) e164)) ?_
    rintro _ _ ⟨W165, rfl, l165, rfl⟩
    have a166 := a153.n l165
    have b173 := ((((b109.up l120 rfl).up l132 rfl).up l143 rfl).up l152 rfl).up l165 rfl
    refine Lw.r rfl (R.not rfl) (Lw.nil (Cw.cond (b := (!z163)) rfl (fun hc175 => ?_) (fun hc175 => ?_)))
    ·replace hm := bt hm hc175
     refine Cw.seq (Cw.region (Lw.r rfl (R.lda (cs := [v0_0_, v0_1_]) (((((b108.up l120 rfl).up l132 rfl).up l143 rfl).up l152 rfl).up l165 rfl).cells rfl rfl) (Lw.u (T.sta (vs := [v0_0_, v0_1_]) b173 rfl rfl (oc_cons h0_0.oc (oc_cons h0_1.oc oc_nil)) rfl rfl) ?_)))
     rintro _ _ ⟨W176, rfl, l176, b176⟩
     have a177 := a166.t l176 rfl
     refine Lw.g (vI 5) rfl (Lw.nil ?_)
     cases hm
     exact Cw.ret (retA2 rfl b176 rfl (Res.mk a177 ⟨v0_0_, v0_1_, rfl, (h0_0.ul a177), (h0_1.ul a177)⟩))
    ·replace hm := bf hm hc175
     refine Cw.skip (Cw.seq (Cw.region (Lw.r rfl (R.lda (cs := [v0_0_132, v0_1_132]) (b152.up l165 rfl).cells rfl rfl) (Lw.u (T.sta (vs := [v0_0_132, v0_1_132]) b173 rfl rfl (oc_cons s133.oc (oc_cons s134.oc oc_nil)) rfl rfl) ?_))))
     rintro _ _ ⟨W187, rfl, l187, b187⟩
     have a188 := a166.t l187 rfl
     refine Lw.g (vI 0) rfl (Lw.nil ?_)
     have s196 := s133.up ((l143.sub (M := [3, 9]) rfl).trans ((l152.sub (M := [3, 9]) rfl).trans ((l165.sub (M := [3, 9]) rfl).trans (l187.sub (M := [3, 9]) rfl)))) rfl
     have s197 := s134.up ((l143.sub (M := [3, 9]) rfl).trans ((l152.sub (M := [3, 9]) rfl).trans ((l165.sub (M := [3, 9]) rfl).trans (l187.sub (M := [3, 9]) rfl)))) rfl
     obtain ⟨W198, ew198, l198, dj198⟩ := dyeE _ 6
     have s199 : Rd W198 [0, 8] [v0_0_132] z130.Commits := by rw [dj198]; exact (s196.dye 6).sub (M := [0, 8]) rfl
     have s200 : Rd W198 [0, 8] [v0_1_132] z130.Heads := by rw [dj198]; exact (s197.dye 6).sub (M := [0, 8]) rfl
     have s201 : Rd (α := List Vm.File) W198 [0] [v0_104] z102.1 := by rw [dj198]; exact ((((((o124.up l132 rfl).up l143 rfl).up l152 rfl).up l165 rfl).up l187 rfl).rd.dye 6).sub (M := [0]) rfl
     have a202 := a188.t l198 rfl
     obtain ⟨W210, ew210, l210, dj210⟩ := dyeE _ 8
     have s211 : Rd W210 [0] [v0_0_132] z130.Commits := by rw [dj210]; exact (s199.dye 8).sub (M := [0]) rfl
     have s212 : Rd W210 [0] [v0_1_132] z130.Heads := by rw [dj210]; exact (s200.dye 8).sub (M := [0]) rfl
     have s213 : Rd (α := List Int) W210 [0] [v120] ([z8, x3] : List Int) := by rw [dj210]; exact (((((((o120.up l132 rfl).up l143 rfl).up l152 rfl).up l165 rfl).up l187 rfl).up l198 rfl).rd.dye 8).sub (M := [0]) rfl
     have a214 := a202.t l210 rfl
     cases hm
     rw [← ew210.trans (ew198)]
     exact Cw.ret (retA2 rfl ((b187.up l198 rfl).up l210 rfl) rfl (Res.mk a214 ⟨v0_0_132, v0_1_132, rfl, s211, s212⟩))

theorem p98 {W : CW} {K : List Nat} {x0 : Vm.Repo} {v0_0_ : Value} {v0_1_ : Value} {x1 : Str} {x2 : Str} {x3 : Int} {r : Vm.Repo × Int} (h0 : Rd W K [v0_0_, v0_1_] x0) (hm : Vm.spec_l9Unite x0 x1 x2 x3 = some r) : CallR Tryz.prog 98 [.agg [v0_0_, v0_1_].toArray, vS x1, vS x2, vI x3].toArray W.w (Res W [] fun W' v => ∃ (u0_0 : Value) (u0_1 : Value), v = .tuple [.agg [u0_0, u0_1].toArray, vI r.2].toArray ∧ Rd W' (0 :: K) [u0_0] r.1.Commits ∧ Rd W' (0 :: K) [u0_1] r.1.Heads) :=
 (c98 (V := W.view K []) (h0.view _) hm).ad (fk 0) fun _ _ ⟨u0_0, u0_1, e, f0, f1⟩ => ⟨u0_0, u0_1, e, f0.back rfl, f1.back rfl⟩

theorem c83 {V : CW} {x0 : Vm.Repo} {v0_0_ : Value} {v0_1_ : Value} {x1 : Str} {x2 : Str} {x3 : Int} {r : Vm.Repo × Int} (h0 : Rd V [0] [v0_0_, v0_1_] x0) (hm : Vm.spec_UniteInto x0 x1 x2 x3 = some r) : CallR Tryz.prog 83 [.agg [v0_0_, v0_1_].toArray, vS x1, vS x2, vI x3].toArray V.w (Res V LL fun Wf v => ∃ (u0_0 : Value) (u0_1 : Value), v = .tuple [.agg [u0_0, u0_1].toArray, vI r.2].toArray ∧ Rd Wf [0] [u0_0] r.1.Commits ∧ Rd Wf [0] [u0_1] r.1.Heads) := by
 unfold Vm.spec_UniteInto at hm
 obtain ⟨w0_0, w0_1, he0, h0_0, h0_1⟩ := Repo.split h0
 simp only [List.cons.injEq, and_true, true_and] at he0
 obtain ⟨rfl, rfl⟩ := he0
 obtain ⟨W0, hW0⟩ : ∃ W, W = V := ⟨V, rfl⟩
 subst hW0
 refine CallR.of Tryz.func83 rfl rfl rfl rfl (Cw.seq (Cw.region (Lw.t rfl (T.box 2 (v := .agg [v0_0_, v0_1_].toArray) (cs := [v0_0_, v0_1_]) rfl rfl) ?_)))
 rintro _ _ ⟨g1, W1, rfl, rfl, l1, b1⟩
 have a2 := l1.o
 refine Lw.t rfl (T.alloc 3 (cs := [.slice none 0 0, .slice none 0 0]) rfl) ?_
 rintro _ _ ⟨g3, W3, rfl, rfl, l3, b3⟩
 have a4 := a2.n l3
 refine Lw.g (vI 0) rfl (Lw.nil (Cw.seq (Cw.seq (Cw.region (Lw.r rfl (R.lda (cs := [v0_0_, v0_1_]) (b1.up l3 rfl).cells rfl rfl) ?_)))))
 obtain ⟨z8, e9, hm⟩ := ob hm
 refine Lw.t rfl (T.call rfl (p30 (K := [0])  (Repo.rd (K := [0]) x0.Commits x0.Heads (h0_0.ul a4) (h0_1.ul a4)) e9)) ?_
 rintro _ _ ⟨W10, rfl, l10, rfl⟩
 have a11 := a4.n l10
 have b12 := (b1.up l3 rfl).up l10 rfl
 refine Lw.r rfl (R.not rfl) (Lw.nil (Cw.cond (b := (!z8)) rfl (fun hc14 => ?_) (fun hc14 => ?_)))
 ·replace hm := bt hm hc14
  refine Cw.seq (Cw.region (Lw.r rfl (R.bd (zs := [.slice none 0 0, .slice none 0 0]) (cs := [.slice none 0 0, .slice none 0 0]) [] rfl rfl rfl bp_nil) (Lw.u (T.sta (vs := [.slice none 0 0, .slice none 0 0]) (b3.up l10 rfl) rfl rfl (oc_cons rfl (oc_cons rfl oc_nil)) rfl rfl) ?_)))
  rintro _ _ ⟨W15, rfl, l15, b15⟩
  have a16 := a11.t l15 rfl
  refine Lw.g (vI 1) rfl (Lw.nil ?_)
  cases hm
  exact Cw.ret (retA2 rfl b15 rfl (Res.mk a16 ⟨.slice none 0 0, .slice none 0 0, rfl, (rdN (K := [0])), (rdN (K := [0]))⟩))
 ·replace hm := bf hm hc14
  refine Cw.skip (Cw.seq ?_)
  obtain ⟨K20, hK20, hm⟩ := jn_e hm
  refine Cw.join 14 31 [31] (fun l w => ∃ (y18 : Bool) (W19 : CW), W19.w = w ∧ Le [] W10 W19 ∧ l = [vB y18] ∧ K20 y18 = some r) ?_ ?_
  ·rintro _ _ σ ⟨y18, W19, rfl, l19, rfl, hm⟩
   rw [hK20] at hm
   have a21 := a11.n l19
   have b23 := (b3.up l10 rfl).up l19 rfl
   refine Cw.cond (b := y18) rfl (fun hc24 => ?_) (fun hc24 => ?_)
   ·replace hm := bt hm hc24
    refine Cw.seq (Cw.region (Lw.r rfl (R.lda (cs := [v0_0_, v0_1_]) (b12.up l19 rfl).cells rfl rfl) ?_))
    obtain ⟨z27, e28, hm⟩ := ob hm
    refine Lw.t rfl (T.call rfl (p58 (K := [0]) (k0 := 4) (k1 := 5) (Repo.rd (K := [0]) x0.Commits x0.Heads (h0_0.ul a21) (h0_1.ul a21)) e28)) ?_
    rintro _ _ ⟨W29, rfl, l29, ⟨v0_0_29, v0_1_29, rfl, f29_0, f29_1⟩⟩
    have a30 := a21.n l29
    refine Lw.u (T.sta (vs := [v0_0_29, v0_1_29]) (b23.up l29 rfl) rfl rfl (oc_cons f29_0.oc (oc_cons f29_1.oc oc_nil)) rfl rfl) ?_
    rintro _ _ ⟨W33, rfl, l33, b33⟩
    have a34 := a30.t l33 rfl
    refine Lw.g (vI 1) rfl (Lw.nil ?_)
    obtain ⟨W38, ew38, l38, dj38⟩ := dyeE _ 4
    have s39 : Rd (α := List Vm.Commit) W38 [0] [v0_0_29] z27.Commits := by rw [dj38]; exact ((f29_0.up l33 rfl).rd.dye 4).sub (M := [0]) rfl
    have a40 := a34.t l38 rfl
    obtain ⟨W44, ew44, l44, dj44⟩ := dyeE _ 5
    have s45 : Rd (α := List Vm.Head) W44 [0] [v0_1_29] z27.Heads := by rw [dj44]; exact (((f29_1.up l33 rfl).up l38 rfl).rd.dye 5).sub (M := [0]) rfl
    have a46 := l44.s rfl
    cases hm
    rw [← ew44.trans (ew38)]
    exact Cw.ret (retA2 rfl ((b33.up l38 rfl).up l44 rfl) rfl (Res.mk (a40.trans a46) ⟨v0_0_29, v0_1_29, rfl, (s39.ul a46), s45⟩))
   ·replace hm := bf hm hc24
    refine Cw.skip (Cw.seq (Cw.region (Lw.r rfl (R.lda (cs := [v0_0_, v0_1_]) (b12.up l19 rfl).cells rfl rfl) ?_)))
    obtain ⟨z52, e53, hm⟩ := ob hm
    refine Lw.t rfl (T.call rfl (p58 (K := [0]) (k0 := 6) (k1 := 7) (Repo.rd (K := [0]) x0.Commits x0.Heads (h0_0.ul a21) (h0_1.ul a21)) e53)) ?_
    rintro _ _ ⟨W54, rfl, l54, ⟨v0_0_54, v0_1_54, rfl, f54_0, f54_1⟩⟩
    have a55 := a21.n l54
    refine Lw.m (vS x1) rfl (Lw.m (vS x2) rfl (Lw.m (vI x3) rfl ?_))
    obtain ⟨z58, e59, hm⟩ := ob hm
    refine Lw.t rfl (T.call rfl (p98 (K := [6, 7])  (x0 := (Vm.Repo.mk z52.Commits z52.Heads)) (Repo.rd (K := [6, 7]) z52.Commits z52.Heads (f54_0.rd.sub (M := [6, 7]) rfl) (f54_1.rd.sub (M := [6, 7]) rfl)) e59)) ?_
    rintro _ _ ⟨W60, rfl, l60, ⟨v0_0_60, v0_1_60, rfl, f60_0, f60_1⟩⟩
    have s61 := f60_0.sub (M := [0, 6, 7]) rfl
    have s62 := f60_1.sub (M := [0, 6, 7]) rfl
    have a63 := a55.n l60
    refine Lw.r rfl (R.ext (vs := [.agg [v0_0_60, v0_1_60].toArray, vI z58.2]) (v := .agg [v0_0_60, v0_1_60].toArray) rfl rfl) (Lw.r rfl (R.ext (vs := [.agg [v0_0_60, v0_1_60].toArray, vI z58.2]) (v := vI z58.2) rfl rfl) (Lw.u (T.sta (vs := [v0_0_60, v0_1_60]) ((b23.up l54 rfl).up l60 rfl) rfl rfl (oc_cons s61.oc (oc_cons s62.oc oc_nil)) rfl rfl) ?_))
    rintro _ _ ⟨W68, rfl, l68, b68⟩
    have a69 := a63.t l68 rfl
    refine Lw.g (vI z58.2) rfl (Lw.nil ?_)
    have s73 := s61.up (l68.sub (M := [3]) rfl) rfl
    have s74 := s62.up (l68.sub (M := [3]) rfl) rfl
    obtain ⟨W75, ew75, l75, dj75⟩ := dyeE _ 6
    have s76 : Rd W75 [0, 7] [v0_0_60] z58.1.Commits := by rw [dj75]; exact (s73.dye 6).sub (M := [0, 7]) rfl
    have s77 : Rd W75 [0, 7] [v0_1_60] z58.1.Heads := by rw [dj75]; exact (s74.dye 6).sub (M := [0, 7]) rfl
    have s78 : Rd (α := List Vm.Commit) W75 [0] [v0_0_54] z52.Commits := by rw [dj75]; exact (((f54_0.up l60 rfl).up l68 rfl).rd.dye 6).sub (M := [0]) rfl
    have a79 := a69.t l75 rfl
    obtain ⟨W83, ew83, l83, dj83⟩ := dyeE _ 7
    have s84 : Rd W83 [0] [v0_0_60] z58.1.Commits := by rw [dj83]; exact (s76.dye 7).sub (M := [0]) rfl
    have s85 : Rd W83 [0] [v0_1_60] z58.1.Heads := by rw [dj83]; exact (s77.dye 7).sub (M := [0]) rfl
    have s86 : Rd (α := List Vm.Head) W83 [0] [v0_1_54] z52.Heads := by rw [dj83]; exact ((((f54_1.up l60 rfl).up l68 rfl).up l75 rfl).rd.dye 7).sub (M := [0]) rfl
    have a87 := a79.t l83 rfl
    cases hm
    rw [← ew83.trans (ew75)]
    exact Cw.ret (retA2 rfl ((b68.up l75 rfl).up l83 rfl) rfl (Res.mk a87 ⟨v0_0_60, v0_1_60, rfl, s84, s85⟩))
  ·refine Cw.region (Lw.r rfl (R.lda (cs := [v0_0_, v0_1_]) b12.cells rfl rfl) (Lw.m (vS x1) rfl ?_))
   obtain ⟨z92, e93, hm⟩ := ob hm
   refine Lw.t rfl (T.call rfl (p77 (K := [0])  (Repo.rd (K := [0]) x0.Commits x0.Heads (h0_0.ul a11) (h0_1.ul a11)) e93)) ?_
   rintro _ _ ⟨W94, rfl, l94, rfl⟩
   have a95 := a11.n l94
   refine Lw.lt rfl (Lw.m (vB (decide ((z92 : Int) < (0 : Int)))) rfl (bsplit (decide ((z92 : Int) < (0 : Int))) (fun hc98 => ?_) (fun hc98 => ?_)))
   ·replace hm := bt hm hc98
    refine Lw.ps hc98 rfl (Lw.ps hc98 rfl (Lw.ps hc98 rfl (Lw.p hc98 (vB true) rfl (Lw.m (vB true) rfl (Lw.ps rfl rfl (Lw.ps rfl rfl (Lw.ps rfl rfl (Lw.ps rfl rfl (Lw.ps rfl rfl (Lw.ps rfl rfl (Lw.ps rfl rfl (Lw.p rfl (vB true) rfl (Lw.nil (⟨?_, ⟨true, W94, rfl, l94, rfl, hm⟩⟩))))))))))))))
    iterate 18 (refine .u ?_)
    exact Agree.refl _
   ·replace hm := bf hm hc98
    refine Lw.wa hc98 rfl (Lw.m (vS x2) rfl (Lw.wa hc98 rfl ?_))
    obtain ⟨z99, e100, hm⟩ := ob hm
    refine Lw.t rfl (T.call rfl (p51 (K := [0])   e100)) ?_
    rintro _ _ ⟨W101, rfl, l101, rfl⟩
    have a102 := a95.n l101
    refine Lw.wa hc98 rfl (Lw.r rfl (R.not rfl) (Lw.p hc98 (vB (!z99)) rfl (Lw.m (vB (!z99)) rfl (bsplit (!z99) (fun hc105 => ?_) (fun hc105 => ?_)))))
    ·replace hm := bt hm hc105
     refine Lw.ps hc105 rfl (Lw.ps hc105 rfl (Lw.ps hc105 rfl (Lw.ps hc105 rfl (Lw.ps hc105 rfl (Lw.ps hc105 rfl (Lw.ps hc105 rfl (Lw.p hc105 (vB true) rfl (Lw.nil (⟨?_, ⟨true, W101, rfl, (l94.trans l101), rfl, hm⟩⟩)))))))))
     iterate 18 (refine .u ?_)
     exact Agree.refl _
    ·replace hm := bf hm hc105
     refine Lw.wa hc105 rfl (Lw.m (vI x3) rfl (Lw.wa hc105 rfl (Lw.fa rfl (Lw.wa hc105 rfl (Lw.r rfl (R.ld (v := v0_0_) rfl rfl (((b12.up l94 rfl).up l101 rfl).cell rfl)) (Lw.wa hc105 rfl (Lw.ln x0.Commits (h0_0.ul a102) rfl (Lw.wa hc105 rfl (Lw.sub rfl (Lw.wa hc105 rfl ?_))))))))))
     obtain ⟨z107, e108, hm⟩ := ob hm
     refine Lw.t rfl (T.call rfl (p31 (K := [0])   e108)) ?_
     rintro _ _ ⟨W109, rfl, l109, rfl⟩
     refine Lw.wa hc105 rfl (Lw.r rfl (R.not rfl) (Lw.p hc105 (vB (!z107)) rfl (Lw.nil (⟨?_, ⟨(!z107), W109, rfl, (l94.trans (l101.trans l109)), rfl, hm⟩⟩))))
     iterate 18 (refine .u ?_)
     exact Agree.refl _

theorem p83 {W : CW} {K : List Nat} {x0 : Vm.Repo} {v0_0_ : Value} {v0_1_ : Value} {x1 : Str} {x2 : Str} {x3 : Int} {r : Vm.Repo × Int} (h0 : Rd W K [v0_0_, v0_1_] x0) (hm : Vm.spec_UniteInto x0 x1 x2 x3 = some r) : CallR Tryz.prog 83 [.agg [v0_0_, v0_1_].toArray, vS x1, vS x2, vI x3].toArray W.w (Res W [] fun W' v => ∃ (u0_0 : Value) (u0_1 : Value), v = .tuple [.agg [u0_0, u0_1].toArray, vI r.2].toArray ∧ Rd W' (0 :: K) [u0_0] r.1.Commits ∧ Rd W' (0 :: K) [u0_1] r.1.Heads) :=
 (c83 (V := W.view K []) (h0.view _) hm).ad (fk 0) fun _ _ ⟨u0_0, u0_1, e, f0, f1⟩ => ⟨u0_0, u0_1, e, f0.back rfl, f1.back rfl⟩

theorem c100 {V : CW} {x0 : Vm.Repo} {v0_0_ : Value} {v0_1_ : Value} {x1 : Int} {r : (List Vm.File)} (h0 : Rd V [0] [v0_0_, v0_1_] x0) (hm : Vm.spec_l10Ahead x0 x1 = some r) : CallR Tryz.prog 100 [.agg [v0_0_, v0_1_].toArray, vI x1].toArray V.w (Res V LL fun Wf v => ∃ (u0 : Value), v = u0 ∧ Rd Wf [0] [u0] r) := by
 unfold Vm.spec_l10Ahead at hm
 obtain ⟨w0_0, w0_1, he0, h0_0, h0_1⟩ := Repo.split h0
 simp only [List.cons.injEq, and_true, true_and] at he0
 obtain ⟨rfl, rfl⟩ := he0
 obtain ⟨W0, hW0⟩ : ∃ W, W = V := ⟨V, rfl⟩
 subst hW0
 refine CallR.of Tryz.func100 rfl rfl rfl rfl (Cw.seq (Cw.region (Lw.t rfl (T.box 2 (v := .agg [v0_0_, v0_1_].toArray) (cs := [v0_0_, v0_1_]) rfl rfl) ?_)))
 rintro _ _ ⟨g1, W1, rfl, rfl, l1, b1⟩
 have a2 := l1.o
 refine Lw.g (.slice none 0 0) rfl (Lw.nil (Cw.seq (Cw.seq (Cw.region (Lw.fa rfl (Lw.r rfl (R.ld (v := v0_0_) rfl rfl (b1.cell rfl)) (Lw.m (vI x1) rfl ?_)))))))
 obtain ⟨u3, e4, hm⟩ := ob hm
 refine Lw.r rfl (R.ix (α := Commit) (h0_0.ul a2) e4 rfl rfl rfl) (Lw.fa rfl ?_)
 obtain ⟨v6, c7, r8⟩ := (Commit.at0 ((h0_0.ul a2).at_ e4)).cell rfl
 refine Lw.r rfl (R.ld rfl rfl c7) (Lw.ln u3.Parents r8 rfl (Lw.eq rfl (Lw.nil (Cw.cond (b := (((u3.Parents.length : Int) : Int) == (0 : Int))) rfl (fun hc9 => ?_) (fun hc9 => ?_)))))
 ·replace hm := bt hm hc9
  refine Cw.seq (Cw.region (Lw.g (.slice none 0 0) rfl (Lw.nil ?_)))
  cases hm
  exact Cw.ret (ret1 rfl (Res.mk a2 ⟨.slice none 0 0, rfl, (rdN (K := [0]))⟩))
 ·replace hm := bf hm hc9
  refine Cw.skip (Cw.seq (Cw.draw [] [(0, 0), (1, 1), (2, 0), (3, 1), (4, 0), (5, 0), (6, 0), (7, 1), (8, 0), (9, 1), (10, 0), (11, 0), (12, 1), (13, 0)] mixed (by kernel_rfl) fun W10 l10 => ?_))
  have a11 := a2.n l10
  refine Mw.p rfl rfl (fun _ => R.fa rfl) (Mw.q rfl rfl (fun _ c => R.ld (v := v0_0_) rfl rfl ((b1.up l10 rfl).clc rfl rfl c)) (Mw.p rfl rfl (fun _ => R.fa rfl) (Mw.q rfl rfl (fun _ c => R.ld (v := v0_0_) rfl rfl ((b1.up l10 rfl).clc rfl rfl c)) (Mw.p rfl rfl (fun _ => R.mv (v := vI x1) rfl) ?_))))
  obtain ⟨u13, e14, hm⟩ := ob hm
  have s15 := h0_0.ul a11
  refine Mw.p rfl rfl (fun _ => R.ix (α := Commit) s15 e14 rfl rfl rfl) (Mw.p rfl rfl (fun _ => R.fa rfl) ?_)
  obtain ⟨v16, c17, r18⟩ := (Commit.at0 (s15.at_ e14)).cell rfl
  refine Mw.q rfl rfl (fun _ c => R.ld rfl rfl (cl_cell (Commit.at0 (s15.at_ e14)).1 rfl c17 c)) ?_
  obtain ⟨u19, e20, hm⟩ := ob hm
  refine Mw.p rfl rfl (fun _ => R.ix (α := Int) r18 e20 rfl rfl rfl) (Mw.q rfl rfl (fun _ c => R.ld rfl rfl (cl_cell (r18.at_ e20).1 rfl (r18.at_ e20).int c)) ?_)
  obtain ⟨u21, e22, hm⟩ := ob hm
  refine Mw.p rfl rfl (fun _ => R.ix (α := Commit) s15 e22 rfl rfl rfl) (Mw.p rfl rfl (fun _ => R.fa rfl) ?_)
  obtain ⟨v23, c24, r25⟩ := (Commit.at2 (s15.at_ e22)).cell rfl
  refine Mw.q rfl rfl (fun _ c => R.ld rfl rfl (cl_cell (Commit.at2 (s15.at_ e22)).1 rfl c24 c)) (Mw.p rfl rfl (fun _ => R.as (v := v23) rfl) (Mw.nil ?_))
  cases hm
  exact Cw.ret (ret1 rfl (Res.mk a11 ⟨v23, rfl, r25⟩))

theorem p100 {W : CW} {K : List Nat} {x0 : Vm.Repo} {v0_0_ : Value} {v0_1_ : Value} {x1 : Int} {r : (List Vm.File)} (h0 : Rd W K [v0_0_, v0_1_] x0) (hm : Vm.spec_l10Ahead x0 x1 = some r) : CallR Tryz.prog 100 [.agg [v0_0_, v0_1_].toArray, vI x1].toArray W.w (Res W [] fun W' v => ∃ (u0 : Value), v = u0 ∧ Rd W' (0 :: K) [u0] r) :=
 (c100 (V := W.view K []) (h0.view _) hm).ad (fk 0) fun _ _ ⟨u0, e, f0⟩ => ⟨u0, e, f0.back rfl⟩

theorem c99 {V : CW} {x0 : Vm.Repo} {v0_0_ : Value} {v0_1_ : Value} {x1 : Str} {x2 : Str} {x3 : List Vm.File} {v3_ : Value} {x4 : List Vm.File} {v4_ : Value} {r : Vm.Repo × Int} (h0 : Rd V [0] [v0_0_, v0_1_] x0) (h3 : Rd V [0] [v3_] x3) (h4 : Rd V [0] [v4_] x4) (hm : Vm.spec_l10Put x0 x1 x2 x3 x4 = some r) : CallR Tryz.prog 99 [.agg [v0_0_, v0_1_].toArray, vS x1, vS x2, v3_, v4_].toArray V.w (Res V LL fun Wf v => ∃ (u0_0 : Value) (u0_1 : Value), v = .tuple [.agg [u0_0, u0_1].toArray, vI r.2].toArray ∧ Rd Wf [0] [u0_0] r.1.Commits ∧ Rd Wf [0] [u0_1] r.1.Heads) := by
 unfold Vm.spec_l10Put at hm
 obtain ⟨w0_0, w0_1, he0, h0_0, h0_1⟩ := Repo.split h0
 simp only [List.cons.injEq, and_true, true_and] at he0
 obtain ⟨rfl, rfl⟩ := he0
 obtain ⟨W0, hW0⟩ : ∃ W, W = V := ⟨V, rfl⟩
 subst hW0
 refine CallR.of Tryz.func99 rfl rfl rfl rfl (Cw.seq (Cw.region (Lw.t rfl (T.box 2 (v := .agg [v0_0_, v0_1_].toArray) (cs := [v0_0_, v0_1_]) rfl rfl) ?_)))
 rintro _ _ ⟨g1, W1, rfl, rfl, l1, b1⟩
 have a2 := l1.o
 refine Lw.t rfl (T.alloc 3 (cs := [.slice none 0 0, .slice none 0 0]) rfl) ?_
 rintro _ _ ⟨g3, W3, rfl, rfl, l3, b3⟩
 have a4 := a2.n l3
 refine Lw.g (vI 0) rfl (Lw.nil (Cw.seq (Cw.region (Lw.r rfl (R.lda (cs := [v0_0_, v0_1_]) (b1.up l3 rfl).cells rfl rfl) (Lw.m (vS x1) rfl ?_)))))
 obtain ⟨z8, e9, hm⟩ := ob hm
 refine Lw.t rfl (T.call rfl (p77 (K := [0])  (Repo.rd (K := [0]) x0.Commits x0.Heads (h0_0.ul a4) (h0_1.ul a4)) e9)) ?_
 rintro _ _ ⟨W10, rfl, l10, rfl⟩
 have a11 := a4.n l10
 have b12 := (b1.up l3 rfl).up l10 rfl
 refine Lw.g (vI z8) rfl (Lw.nil (Cw.seq (Cw.region (Lw.m v3_ rfl (Lw.fa rfl (Lw.r rfl (R.ld (v := v0_0_) rfl rfl (b12.cell rfl)) (Lw.m (vI z8) rfl ?_)))))))
 obtain ⟨u14, e15, hm⟩ := ob hm
 refine Lw.r rfl (R.ix (α := Commit) (h0_0.ul a11) e15 rfl rfl rfl) (Lw.fa rfl ?_)
 obtain ⟨v17, c18, r19⟩ := (Commit.at2 ((h0_0.ul a11).at_ e15)).cell rfl
 refine Lw.r rfl (R.ld rfl rfl c18) (Lw.m v4_ rfl ?_)
 obtain ⟨z22, e23, hm⟩ := ob hm
 refine Lw.t rfl (T.call rfl (p108 (K := [0]) (k0 := 4) (k1 := 5) (h3.ul a11) r19 (h4.ul a11) e23)) ?_
 rintro _ _ ⟨W24, rfl, l24, ⟨v0_24, v1_24, rfl, f24_0, f24_1⟩⟩
 have a25 := a11.n l24
 have b26 := b12.up l24 rfl
 have b27 := (b3.up l10 rfl).up l24 rfl
 refine Lw.m (.tuple [v0_24, v1_24].toArray) rfl (Lw.r rfl (R.ext (vs := [v0_24, v1_24]) (v := v0_24) rfl rfl) (Lw.r rfl (R.ext (vs := [v0_24, v1_24]) (v := v1_24) rfl rfl) (Lw.g v0_24 rfl (Lw.g v1_24 rfl (Lw.nil (Cw.seq (Cw.seq (Cw.region (Lw.m v1_24 rfl (Lw.ln z22.2 f24_1.rd rfl (Lw.gt rfl (Lw.nil (Cw.cond (b := decide ((0 : Int) < ((z22.2.length : Int) : Int))) rfl (fun hc28 => ?_) (fun hc28 => ?_))))))))))))))
 ·replace hm := bt hm hc28
  refine Cw.seq (Cw.region (Lw.r rfl (R.lda (cs := [v0_0_, v0_1_]) b26.cells rfl rfl) (Lw.u (T.sta (vs := [v0_0_, v0_1_]) b27 rfl rfl (oc_cons h0_0.oc (oc_cons h0_1.oc oc_nil)) rfl rfl) ?_)))
  rintro _ _ ⟨W29, rfl, l29, b29⟩
  have a30 := a25.t l29 rfl
  refine Lw.g (vI 4) rfl (Lw.nil ?_)
  cases hm
  exact Cw.ret (retA2 rfl b29 rfl (Res.mk a30 ⟨v0_0_, v0_1_, rfl, (h0_0.ul a30), (h0_1.ul a30)⟩))
 ·replace hm := bf hm hc28
  refine Cw.skip (Cw.seq (Cw.region (Lw.r rfl (R.lda (cs := [v0_0_, v0_1_]) b26.cells rfl rfl) (Lw.m (vS x1) rfl (Lw.m (vI z8) rfl (Lw.t rfl (T.bsS (α := Int) (xs := [z8]) 6 [] (W := W24) [vI z8] (Each.cons ((rdI _)) Each.nil) rfl) ?_))))))
  rintro v36 _ ⟨W36, rfl, l36, o36⟩
  have a37 := a25.n l36
  have o38 := f24_0.up l36 rfl
  refine Lw.m (vS x2) rfl (Lw.m v0_24 rfl (Lw.r rfl (R.bd (zs := [.slice none 0 0, vS ([] : Str), .slice none 0 0]) (cs := [v36, vS x2, v0_24]) [(0, v36), (1, vS x2), (2, v0_24)] rfl rfl rfl (bp_cons o36.oc rfl (bp_cons rfl rfl (bp_cons o38.oc rfl bp_nil)))) ?_))
  obtain ⟨z44, e45, hm⟩ := ob hm
  refine Lw.t rfl (T.call rfl (p107 (K := [0, 4, 6])  (x2 := (Vm.Commit.mk ([z8] : List Int) x2 z22.1)) ((Repo.rd (K := [0]) x0.Commits x0.Heads (h0_0.ul a37) (h0_1.ul a37)).sub (M := [0, 4, 6]) rfl) ((Commit.rd (K := [4, 6]) ([z8] : List Int) x2 z22.1 (o36.rd.sub (M := [4, 6]) rfl) (o38.rd.sub (M := [4, 6]) rfl)).sub (M := [0, 4, 6]) rfl) e45)) ?_
  rintro _ _ ⟨W46, rfl, l46, ⟨v0_0_46, v0_1_46, rfl, f46_0, f46_1⟩⟩
  have s47 := f46_0.sub (M := [0, 4, 6]) rfl
  have s48 := f46_1.sub (M := [0, 4, 6]) rfl
  have a49 := a37.n l46
  refine Lw.t rfl (T.alloc 7 (cs := [.slice none 0 0, .slice none 0 0]) rfl) ?_
  rintro _ _ ⟨g55, W55, rfl, rfl, l55, b55⟩
  have a56 := a49.n l55
  refine Lw.u (T.sta (vs := [v0_0_46, v0_1_46]) b55 rfl rfl (oc_cons s47.oc (oc_cons s48.oc oc_nil)) rfl rfl) ?_
  rintro _ _ ⟨W62, rfl, l62, b62⟩
  have a63 := a56.t l62 rfl
  refine Lw.nil (Cw.seq (Cw.seq (Cw.region (Lw.r rfl (R.lda (cs := [v0_0_46, v0_1_46]) b62.cells rfl rfl) ?_))))
  have s69 := s47.up ((l55.sub (M := [7]) rfl).trans (l62.sub (M := [7]) rfl)) rfl
  have s70 := s48.up ((l55.sub (M := [7]) rfl).trans (l62.sub (M := [7]) rfl)) rfl
  obtain ⟨z71, e72, hm⟩ := ob hm
  refine Lw.t rfl (T.call rfl (p30 (K := [0, 4, 6])  (Repo.rd (K := [0, 4, 6]) z44.Commits z44.Heads s69 s70) e72)) ?_
  rintro _ _ ⟨W73, rfl, l73, rfl⟩
  have a74 := a63.n l73
  have b79 := ((((b27.up l36 rfl).up l46 rfl).up l55 rfl).up l62 rfl).up l73 rfl
  refine Lw.r rfl (R.not rfl) (Lw.nil (Cw.cond (b := (!z71)) rfl (fun hc81 => ?_) (fun hc81 => ?_)))
  ·replace hm := bt hm hc81
   refine Cw.seq (Cw.region (Lw.r rfl (R.lda (cs := [v0_0_, v0_1_]) (((((b26.up l36 rfl).up l46 rfl).up l55 rfl).up l62 rfl).up l73 rfl).cells rfl rfl) (Lw.u (T.sta (vs := [v0_0_, v0_1_]) b79 rfl rfl (oc_cons h0_0.oc (oc_cons h0_1.oc oc_nil)) rfl rfl) ?_)))
   rintro _ _ ⟨W82, rfl, l82, b82⟩
   have a83 := a74.t l82 rfl
   refine Lw.g (vI 5) rfl (Lw.nil ?_)
   cases hm
   exact Cw.ret (retA2 rfl b82 rfl (Res.mk a83 ⟨v0_0_, v0_1_, rfl, (h0_0.ul a83), (h0_1.ul a83)⟩))
  ·replace hm := bf hm hc81
   refine Cw.skip (Cw.seq (Cw.region (Lw.r rfl (R.lda (cs := [v0_0_46, v0_1_46]) (b62.up l73 rfl).cells rfl rfl) (Lw.u (T.sta (vs := [v0_0_46, v0_1_46]) b79 rfl rfl (oc_cons s47.oc (oc_cons s48.oc oc_nil)) rfl rfl) ?_))))
   rintro _ _ ⟨W91, rfl, l91, b91⟩
   have a92 := a74.t l91 rfl
   refine Lw.g (vI 0) rfl (Lw.nil ?_)
   have s98 := s47.up ((l55.sub (M := [3, 7]) rfl).trans ((l62.sub (M := [3, 7]) rfl).trans ((l73.sub (M := [3, 7]) rfl).trans (l91.sub (M := [3, 7]) rfl)))) rfl
   have s99 := s48.up ((l55.sub (M := [3, 7]) rfl).trans ((l62.sub (M := [3, 7]) rfl).trans ((l73.sub (M := [3, 7]) rfl).trans (l91.sub (M := [3, 7]) rfl)))) rfl
   obtain ⟨W100, ew100, l100, dj100⟩ := dyeE _ 4
   have s101 : Rd W100 [0, 6] [v0_0_46] z44.Commits := by rw [dj100]; exact (s98.dye 4).sub (M := [0, 6]) rfl
   have s102 : Rd W100 [0, 6] [v0_1_46] z44.Heads := by rw [dj100]; exact (s99.dye 4).sub (M := [0, 6]) rfl
   have s103 : Rd (α := List Vm.File) W100 [0] [v0_24] z22.1 := by rw [dj100]; exact ((((((o38.up l46 rfl).up l55 rfl).up l62 rfl).up l73 rfl).up l91 rfl).rd.dye 4).sub (M := [0]) rfl
   have a104 := a92.t l100 rfl
   obtain ⟨W110, ew110, l110, dj110⟩ := dyeE _ 6
   have s111 : Rd W110 [0] [v0_0_46] z44.Commits := by rw [dj110]; exact (s101.dye 6).sub (M := [0]) rfl
   have s112 : Rd W110 [0] [v0_1_46] z44.Heads := by rw [dj110]; exact (s102.dye 6).sub (M := [0]) rfl
   have s113 : Rd (α := List Int) W110 [0] [v36] ([z8] : List Int) := by rw [dj110]; exact (((((((o36.up l46 rfl).up l55 rfl).up l62 rfl).up l73 rfl).up l91 rfl).up l100 rfl).rd.dye 6).sub (M := [0]) rfl
   have a114 := a104.t l110 rfl
   cases hm
   rw [← ew110.trans (ew100)]
   exact Cw.ret (retA2 rfl ((b91.up l100 rfl).up l110 rfl) rfl (Res.mk a114 ⟨v0_0_46, v0_1_46, rfl, s111, s112⟩))

theorem p99 {W : CW} {K : List Nat} {x0 : Vm.Repo} {v0_0_ : Value} {v0_1_ : Value} {x1 : Str} {x2 : Str} {x3 : List Vm.File} {v3_ : Value} {x4 : List Vm.File} {v4_ : Value} {r : Vm.Repo × Int} (h0 : Rd W K [v0_0_, v0_1_] x0) (h3 : Rd W K [v3_] x3) (h4 : Rd W K [v4_] x4) (hm : Vm.spec_l10Put x0 x1 x2 x3 x4 = some r) : CallR Tryz.prog 99 [.agg [v0_0_, v0_1_].toArray, vS x1, vS x2, v3_, v4_].toArray W.w (Res W [] fun W' v => ∃ (u0_0 : Value) (u0_1 : Value), v = .tuple [.agg [u0_0, u0_1].toArray, vI r.2].toArray ∧ Rd W' (0 :: K) [u0_0] r.1.Commits ∧ Rd W' (0 :: K) [u0_1] r.1.Heads) :=
 (c99 (V := W.view K []) (h0.view _) (h3.view _) (h4.view _) hm).ad (fk 0) fun _ _ ⟨u0_0, u0_1, e, f0, f1⟩ => ⟨u0_0, u0_1, e, f0.back rfl, f1.back rfl⟩

theorem c84 {V : CW} {x0 : Vm.Repo} {v0_0_ : Value} {v0_1_ : Value} {x1 : Str} {x2 : Str} {x3 : Int} {r : Vm.Repo × Int} (h0 : Rd V [0] [v0_0_, v0_1_] x0) (hm : Vm.spec_PickOf x0 x1 x2 x3 = some r) : CallR Tryz.prog 84 [.agg [v0_0_, v0_1_].toArray, vS x1, vS x2, vI x3].toArray V.w (Res V LL fun Wf v => ∃ (u0_0 : Value) (u0_1 : Value), v = .tuple [.agg [u0_0, u0_1].toArray, vI r.2].toArray ∧ Rd Wf [0] [u0_0] r.1.Commits ∧ Rd Wf [0] [u0_1] r.1.Heads) := by
 unfold Vm.spec_PickOf at hm
 obtain ⟨w0_0, w0_1, he0, h0_0, h0_1⟩ := Repo.split h0
 simp only [List.cons.injEq, and_true, true_and] at he0
 obtain ⟨rfl, rfl⟩ := he0
 obtain ⟨W0, hW0⟩ : ∃ W, W = V := ⟨V, rfl⟩
 subst hW0
 refine CallR.of Tryz.func84 rfl rfl rfl rfl (Cw.seq (Cw.region (Lw.t rfl (T.box 2 (v := .agg [v0_0_, v0_1_].toArray) (cs := [v0_0_, v0_1_]) rfl rfl) ?_)))
 rintro _ _ ⟨g1, W1, rfl, rfl, l1, b1⟩
 have a2 := l1.o
 refine Lw.t rfl (T.alloc 3 (cs := [.slice none 0 0, .slice none 0 0]) rfl) ?_
 rintro _ _ ⟨g3, W3, rfl, rfl, l3, b3⟩
 have a4 := a2.n l3
 refine Lw.g (vI 0) rfl (Lw.nil (Cw.seq (Cw.seq (Cw.region (Lw.r rfl (R.lda (cs := [v0_0_, v0_1_]) (b1.up l3 rfl).cells rfl rfl) ?_)))))
 obtain ⟨z8, e9, hm⟩ := ob hm
 refine Lw.t rfl (T.call rfl (p30 (K := [0])  (Repo.rd (K := [0]) x0.Commits x0.Heads (h0_0.ul a4) (h0_1.ul a4)) e9)) ?_
 rintro _ _ ⟨W10, rfl, l10, rfl⟩
 have a11 := a4.n l10
 have b12 := (b1.up l3 rfl).up l10 rfl
 refine Lw.r rfl (R.not rfl) (Lw.nil (Cw.cond (b := (!z8)) rfl (fun hc14 => ?_) (fun hc14 => ?_)))
 ·replace hm := bt hm hc14
  refine Cw.seq (Cw.region (Lw.r rfl (R.bd (zs := [.slice none 0 0, .slice none 0 0]) (cs := [.slice none 0 0, .slice none 0 0]) [] rfl rfl rfl bp_nil) (Lw.u (T.sta (vs := [.slice none 0 0, .slice none 0 0]) (b3.up l10 rfl) rfl rfl (oc_cons rfl (oc_cons rfl oc_nil)) rfl rfl) ?_)))
  rintro _ _ ⟨W15, rfl, l15, b15⟩
  have a16 := a11.t l15 rfl
  refine Lw.g (vI 1) rfl (Lw.nil ?_)
  cases hm
  exact Cw.ret (retA2 rfl b15 rfl (Res.mk a16 ⟨.slice none 0 0, .slice none 0 0, rfl, (rdN (K := [0])), (rdN (K := [0]))⟩))
 ·replace hm := bf hm hc14
  refine Cw.skip (Cw.seq ?_)
  obtain ⟨K20, hK20, hm⟩ := jn_e hm
  refine Cw.join 15 32 [32] (fun l w => ∃ (y18 : Bool) (W19 : CW), W19.w = w ∧ Le [] W10 W19 ∧ l = [vB y18] ∧ K20 y18 = some r) ?_ ?_
  ·rintro _ _ σ ⟨y18, W19, rfl, l19, rfl, hm⟩
   rw [hK20] at hm
   have a21 := a11.n l19
   have b23 := (b3.up l10 rfl).up l19 rfl
   refine Cw.cond (b := y18) rfl (fun hc24 => ?_) (fun hc24 => ?_)
   ·replace hm := bt hm hc24
    refine Cw.seq (Cw.region (Lw.r rfl (R.lda (cs := [v0_0_, v0_1_]) (b12.up l19 rfl).cells rfl rfl) ?_))
    obtain ⟨z27, e28, hm⟩ := ob hm
    refine Lw.t rfl (T.call rfl (p58 (K := [0]) (k0 := 4) (k1 := 5) (Repo.rd (K := [0]) x0.Commits x0.Heads (h0_0.ul a21) (h0_1.ul a21)) e28)) ?_
    rintro _ _ ⟨W29, rfl, l29, ⟨v0_0_29, v0_1_29, rfl, f29_0, f29_1⟩⟩
    have a30 := a21.n l29
    refine Lw.u (T.sta (vs := [v0_0_29, v0_1_29]) (b23.up l29 rfl) rfl rfl (oc_cons f29_0.oc (oc_cons f29_1.oc oc_nil)) rfl rfl) ?_
    rintro _ _ ⟨W33, rfl, l33, b33⟩
    have a34 := a30.t l33 rfl
    refine Lw.g (vI 1) rfl (Lw.nil ?_)
    obtain ⟨W38, ew38, l38, dj38⟩ := dyeE _ 4
    have s39 : Rd (α := List Vm.Commit) W38 [0] [v0_0_29] z27.Commits := by rw [dj38]; exact ((f29_0.up l33 rfl).rd.dye 4).sub (M := [0]) rfl
    have a40 := a34.t l38 rfl
    obtain ⟨W44, ew44, l44, dj44⟩ := dyeE _ 5
    have s45 : Rd (α := List Vm.Head) W44 [0] [v0_1_29] z27.Heads := by rw [dj44]; exact (((f29_1.up l33 rfl).up l38 rfl).rd.dye 5).sub (M := [0]) rfl
    have a46 := l44.s rfl
    cases hm
    rw [← ew44.trans (ew38)]
    exact Cw.ret (retA2 rfl ((b33.up l38 rfl).up l44 rfl) rfl (Res.mk (a40.trans a46) ⟨v0_0_29, v0_1_29, rfl, (s39.ul a46), s45⟩))
   ·replace hm := bf hm hc24
    refine Cw.skip (Cw.seq (Cw.region (Lw.r rfl (R.lda (cs := [v0_0_, v0_1_]) (b12.up l19 rfl).cells rfl rfl) ?_)))
    obtain ⟨z52, e53, hm⟩ := ob hm
    refine Lw.t rfl (T.call rfl (p58 (K := [0]) (k0 := 6) (k1 := 7) (Repo.rd (K := [0]) x0.Commits x0.Heads (h0_0.ul a21) (h0_1.ul a21)) e53)) ?_
    rintro _ _ ⟨W54, rfl, l54, ⟨v0_0_54, v0_1_54, rfl, f54_0, f54_1⟩⟩
    have a55 := a21.n l54
    refine Lw.t rfl (T.alloc 8 (cs := [.slice none 0 0, .slice none 0 0]) rfl) ?_
    rintro _ _ ⟨g58, W58, rfl, rfl, l58, b58⟩
    have a59 := a55.n l58
    refine Lw.u (T.sta (vs := [v0_0_54, v0_1_54]) b58 rfl rfl (oc_cons (f54_0.up l58 rfl).oc (oc_cons (f54_1.up l58 rfl).oc oc_nil)) rfl rfl) ?_
    rintro _ _ ⟨W64, rfl, l64, b64⟩
    have a65 := a59.t l64 rfl
    refine Lw.nil (Cw.seq (Cw.draw [] [(0, 1), (1, 0), (2, 0), (3, 1), (4, 0), (6, 0), (7, 1), (8, 0), (9, 0), (10, 0), (11, 1), (5, 2), (12, 2), (13, 0), (14, 0), (15, 3), (16, 0)] mixed (by kernel_rfl) fun W70 l70 => ?_))
    have a71 := a65.n l70
    have o72 := ((f54_0.up l58 rfl).up l64 rfl).up l70 rfl
    have o73 := ((f54_1.up l58 rfl).up l64 rfl).up l70 rfl
    have b76 := b64.up l70 rfl
    refine Mw.q rfl rfl (fun _ c => R.lda (cs := [v0_0_54, v0_1_54]) (b76.clcs rfl c) rfl rfl) (Mw.p rfl rfl (fun _ => R.mv (v := vS x1) rfl) (Mw.p rfl rfl (fun _ => R.mv (v := vS x2) rfl) (Mw.q rfl rfl (fun _ c => R.lda (cs := [v0_0_54, v0_1_54]) (b76.clcs rfl c) rfl rfl) (Mw.p rfl rfl (fun _ => R.mv (v := vI x3) rfl) (Mw.p rfl rfl (fun _ => R.fa rfl) (Mw.q rfl rfl (fun _ c => R.ld (v := v0_0_54) rfl rfl (b76.clc rfl rfl c)) (Mw.p rfl rfl (fun _ => R.mv (v := vI x3) rfl) ?_)))))))
    obtain ⟨u77, e78, hm⟩ := ob hm
    refine Mw.p rfl rfl (fun _ => R.ix (α := Commit) o72.rd e78 rfl rfl rfl) (Mw.p rfl rfl (fun _ => R.fa rfl) ?_)
    obtain ⟨v79, c80, r81⟩ := (Commit.at2 (o72.rd.at_ e78)).cell rfl
    refine Mw.q rfl rfl (fun _ c => R.ld rfl rfl (cl_cell (Commit.at2 (o72.rd.at_ e78)).1 rfl c80 c)) ?_
    obtain ⟨z82, e83, hm⟩ := ob hm
    refine Mw.t rfl rfl (T.call rfl (p100 (K := [6, 7])  (x0 := (Vm.Repo.mk z52.Commits z52.Heads)) (Repo.rd (K := [6, 7]) z52.Commits z52.Heads (o72.rd.sub (M := [6, 7]) rfl) (o73.rd.sub (M := [6, 7]) rfl)) e83)) ?_
    rintro v0_84 _ ⟨W84, rfl, l84, ⟨_, rfl, f84_0⟩⟩
    have s85 := f84_0.sub (M := [0, 6, 7]) rfl
    have a86 := a71.n l84
    refine ⟨⟨_, rfl, (l84.sub (M := []) rfl)⟩, ?_⟩
    have s92 := r81.up (l84.sub (M := []) rfl) rfl
    obtain ⟨z93, e94, hm⟩ := ob hm
    refine Mw.t rfl rfl (T.call rfl (p99 (K := [0, 6, 7])  (x0 := (Vm.Repo.mk z52.Commits z52.Heads)) ((Repo.rd (K := [6, 7]) z52.Commits z52.Heads ((o72.up l84 rfl).rd.sub (M := [6, 7]) rfl) ((o73.up l84 rfl).rd.sub (M := [6, 7]) rfl)).sub (M := [0, 6, 7]) rfl) s85 (s92.sub (M := [0, 6, 7]) rfl) e94)) ?_
    rintro _ _ ⟨W95, rfl, l95, ⟨v0_0_95, v0_1_95, rfl, f95_0, f95_1⟩⟩
    have s96 := f95_0.sub (M := [0, 6, 7]) rfl
    have s97 := f95_1.sub (M := [0, 6, 7]) rfl
    have a98 := a86.n l95
    refine ⟨⟨_, rfl, ((l84.sub (M := []) rfl).trans (l95.sub (M := []) rfl))⟩, ?_⟩
    refine Mw.p rfl rfl (fun _ => R.ext (vs := [.agg [v0_0_95, v0_1_95].toArray, vI z93.2]) (v := .agg [v0_0_95, v0_1_95].toArray) rfl rfl) (Mw.p rfl rfl (fun _ => R.ext (vs := [.agg [v0_0_95, v0_1_95].toArray, vI z93.2]) (v := vI z93.2) rfl rfl) (Mw.lu rfl (T.sta (vs := [v0_0_95, v0_1_95]) ((((((b23.up l54 rfl).up l58 rfl).up l64 rfl).up l70 rfl).up l84 rfl).up l95 rfl) rfl rfl (oc_cons s96.oc (oc_cons s97.oc oc_nil)) rfl rfl) ?_))
    rintro _ _ ⟨W104, rfl, l104, b104⟩
    have a105 := a98.t l104 rfl
    refine Mw.p rfl rfl (fun _ => R.as (v := vI z93.2) rfl) (Mw.nil ?_)
    have s110 := r81.up ((l84.sub (M := [3]) rfl).trans ((l95.sub (M := [3]) rfl).trans (l104.sub (M := [3]) rfl))) rfl
    have s111 := s85.up ((l95.sub (M := [3]) rfl).trans (l104.sub (M := [3]) rfl)) rfl
    have s112 := s96.up (l104.sub (M := [3]) rfl) rfl
    have s113 := s97.up (l104.sub (M := [3]) rfl) rfl
    obtain ⟨W114, ew114, l114, dj114⟩ := dyeE _ 6
    have s115 : Rd W114 [0] [v79] u77.Tree := by rw [dj114]; exact (s110.dye 6).sub (M := [0]) rfl
    have s116 : Rd W114 [0, 7] [v0_84] z82 := by rw [dj114]; exact (s111.dye 6).sub (M := [0, 7]) rfl
    have s117 : Rd W114 [0, 7] [v0_0_95] z93.1.Commits := by rw [dj114]; exact (s112.dye 6).sub (M := [0, 7]) rfl
    have s118 : Rd W114 [0, 7] [v0_1_95] z93.1.Heads := by rw [dj114]; exact (s113.dye 6).sub (M := [0, 7]) rfl
    have s119 : Rd (α := List Vm.Commit) W114 [0] [v0_0_54] z52.Commits := by rw [dj114]; exact ((((o72.up l84 rfl).up l95 rfl).up l104 rfl).rd.dye 6).sub (M := [0]) rfl
    have a120 := a105.t l114 rfl
    obtain ⟨W125, ew125, l125, dj125⟩ := dyeE _ 7
    have s126 : Rd W125 [0] [v0_84] z82 := by rw [dj125]; exact (s116.dye 7).sub (M := [0]) rfl
    have s127 : Rd W125 [0] [v0_0_95] z93.1.Commits := by rw [dj125]; exact (s117.dye 7).sub (M := [0]) rfl
    have s128 : Rd W125 [0] [v0_1_95] z93.1.Heads := by rw [dj125]; exact (s118.dye 7).sub (M := [0]) rfl
    have s129 : Rd (α := List Vm.Head) W125 [0] [v0_1_54] z52.Heads := by rw [dj125]; exact (((((o73.up l84 rfl).up l95 rfl).up l104 rfl).up l114 rfl).rd.dye 7).sub (M := [0]) rfl
    have a130 := a120.t l125 rfl
    cases hm
    rw [← ew125.trans (ew114)]
    exact Cw.ret (retA2 rfl ((b104.up l114 rfl).up l125 rfl) rfl (Res.mk a130 ⟨v0_0_95, v0_1_95, rfl, s127, s128⟩))
  ·refine Cw.region (Lw.r rfl (R.lda (cs := [v0_0_, v0_1_]) b12.cells rfl rfl) (Lw.m (vS x1) rfl ?_))
   obtain ⟨z136, e137, hm⟩ := ob hm
   refine Lw.t rfl (T.call rfl (p77 (K := [0])  (Repo.rd (K := [0]) x0.Commits x0.Heads (h0_0.ul a11) (h0_1.ul a11)) e137)) ?_
   rintro _ _ ⟨W138, rfl, l138, rfl⟩
   have a139 := a11.n l138
   refine Lw.lt rfl (Lw.m (vB (decide ((z136 : Int) < (0 : Int)))) rfl (bsplit (decide ((z136 : Int) < (0 : Int))) (fun hc142 => ?_) (fun hc142 => ?_)))
   ·replace hm := bt hm hc142
    refine Lw.ps hc142 rfl (Lw.ps hc142 rfl (Lw.ps hc142 rfl (Lw.p hc142 (vB true) rfl (Lw.m (vB true) rfl (Lw.ps rfl rfl (Lw.ps rfl rfl (Lw.ps rfl rfl (Lw.ps rfl rfl (Lw.ps rfl rfl (Lw.ps rfl rfl (Lw.ps rfl rfl (Lw.p rfl (vB true) rfl (Lw.nil (⟨?_, ⟨true, W138, rfl, l138, rfl, hm⟩⟩))))))))))))))
    iterate 18 (refine .u ?_)
    exact Agree.refl _
   ·replace hm := bf hm hc142
    refine Lw.wa hc142 rfl (Lw.m (vS x2) rfl (Lw.wa hc142 rfl ?_))
    obtain ⟨z143, e144, hm⟩ := ob hm
    refine Lw.t rfl (T.call rfl (p51 (K := [0])   e144)) ?_
    rintro _ _ ⟨W145, rfl, l145, rfl⟩
    have a146 := a139.n l145
    refine Lw.wa hc142 rfl (Lw.r rfl (R.not rfl) (Lw.p hc142 (vB (!z143)) rfl (Lw.m (vB (!z143)) rfl (bsplit (!z143) (fun hc149 => ?_) (fun hc149 => ?_)))))
    ·replace hm := bt hm hc149
     refine Lw.ps hc149 rfl (Lw.ps hc149 rfl (Lw.ps hc149 rfl (Lw.ps hc149 rfl (Lw.ps hc149 rfl (Lw.ps hc149 rfl (Lw.ps hc149 rfl (Lw.p hc149 (vB true) rfl (Lw.nil (⟨?_, ⟨true, W145, rfl, (l138.trans l145), rfl, hm⟩⟩)))))))))
     iterate 18 (refine .u ?_)
     exact Agree.refl _
    ·replace hm := bf hm hc149
     refine Lw.wa hc149 rfl (Lw.m (vI x3) rfl (Lw.wa hc149 rfl (Lw.fa rfl (Lw.wa hc149 rfl (Lw.r rfl (R.ld (v := v0_0_) rfl rfl (((b12.up l138 rfl).up l145 rfl).cell rfl)) (Lw.wa hc149 rfl (Lw.ln x0.Commits (h0_0.ul a146) rfl (Lw.wa hc149 rfl (Lw.sub rfl (Lw.wa hc149 rfl ?_))))))))))
     obtain ⟨z151, e152, hm⟩ := ob hm
     refine Lw.t rfl (T.call rfl (p31 (K := [0])   e152)) ?_
     rintro _ _ ⟨W153, rfl, l153, rfl⟩
     refine Lw.wa hc149 rfl (Lw.r rfl (R.not rfl) (Lw.p hc149 (vB (!z151)) rfl (Lw.nil (⟨?_, ⟨(!z151), W153, rfl, (l138.trans (l145.trans l153)), rfl, hm⟩⟩))))
     iterate 18 (refine .u ?_)
     exact Agree.refl _

theorem p84 {W : CW} {K : List Nat} {x0 : Vm.Repo} {v0_0_ : Value} {v0_1_ : Value} {x1 : Str} {x2 : Str} {x3 : Int} {r : Vm.Repo × Int} (h0 : Rd W K [v0_0_, v0_1_] x0) (hm : Vm.spec_PickOf x0 x1 x2 x3 = some r) : CallR Tryz.prog 84 [.agg [v0_0_, v0_1_].toArray, vS x1, vS x2, vI x3].toArray W.w (Res W [] fun W' v => ∃ (u0_0 : Value) (u0_1 : Value), v = .tuple [.agg [u0_0, u0_1].toArray, vI r.2].toArray ∧ Rd W' (0 :: K) [u0_0] r.1.Commits ∧ Rd W' (0 :: K) [u0_1] r.1.Heads) :=
 (c84 (V := W.view K []) (h0.view _) hm).ad (fk 0) fun _ _ ⟨u0_0, u0_1, e, f0, f1⟩ => ⟨u0_0, u0_1, e, f0.back rfl, f1.back rfl⟩

theorem c85 {V : CW} {x0 : Vm.Repo} {v0_0_ : Value} {v0_1_ : Value} {x1 : Str} {x2 : Str} {x3 : Int} {r : Vm.Repo × Int} (h0 : Rd V [0] [v0_0_, v0_1_] x0) (hm : Vm.spec_PickBack x0 x1 x2 x3 = some r) : CallR Tryz.prog 85 [.agg [v0_0_, v0_1_].toArray, vS x1, vS x2, vI x3].toArray V.w (Res V LL fun Wf v => ∃ (u0_0 : Value) (u0_1 : Value), v = .tuple [.agg [u0_0, u0_1].toArray, vI r.2].toArray ∧ Rd Wf [0] [u0_0] r.1.Commits ∧ Rd Wf [0] [u0_1] r.1.Heads) := by
 unfold Vm.spec_PickBack at hm
 obtain ⟨w0_0, w0_1, he0, h0_0, h0_1⟩ := Repo.split h0
 simp only [List.cons.injEq, and_true, true_and] at he0
 obtain ⟨rfl, rfl⟩ := he0
 obtain ⟨W0, hW0⟩ : ∃ W, W = V := ⟨V, rfl⟩
 subst hW0
 refine CallR.of Tryz.func85 rfl rfl rfl rfl (Cw.seq (Cw.region (Lw.t rfl (T.box 2 (v := .agg [v0_0_, v0_1_].toArray) (cs := [v0_0_, v0_1_]) rfl rfl) ?_)))
 rintro _ _ ⟨g1, W1, rfl, rfl, l1, b1⟩
 have a2 := l1.o
 refine Lw.t rfl (T.alloc 3 (cs := [.slice none 0 0, .slice none 0 0]) rfl) ?_
 rintro _ _ ⟨g3, W3, rfl, rfl, l3, b3⟩
 have a4 := a2.n l3
 refine Lw.g (vI 0) rfl (Lw.nil (Cw.seq (Cw.seq (Cw.region (Lw.r rfl (R.lda (cs := [v0_0_, v0_1_]) (b1.up l3 rfl).cells rfl rfl) ?_)))))
 obtain ⟨z8, e9, hm⟩ := ob hm
 refine Lw.t rfl (T.call rfl (p30 (K := [0])  (Repo.rd (K := [0]) x0.Commits x0.Heads (h0_0.ul a4) (h0_1.ul a4)) e9)) ?_
 rintro _ _ ⟨W10, rfl, l10, rfl⟩
 have a11 := a4.n l10
 have b12 := (b1.up l3 rfl).up l10 rfl
 refine Lw.r rfl (R.not rfl) (Lw.nil (Cw.cond (b := (!z8)) rfl (fun hc14 => ?_) (fun hc14 => ?_)))
 ·replace hm := bt hm hc14
  refine Cw.seq (Cw.region (Lw.r rfl (R.bd (zs := [.slice none 0 0, .slice none 0 0]) (cs := [.slice none 0 0, .slice none 0 0]) [] rfl rfl rfl bp_nil) (Lw.u (T.sta (vs := [.slice none 0 0, .slice none 0 0]) (b3.up l10 rfl) rfl rfl (oc_cons rfl (oc_cons rfl oc_nil)) rfl rfl) ?_)))
  rintro _ _ ⟨W15, rfl, l15, b15⟩
  have a16 := a11.t l15 rfl
  refine Lw.g (vI 1) rfl (Lw.nil ?_)
  cases hm
  exact Cw.ret (retA2 rfl b15 rfl (Res.mk a16 ⟨.slice none 0 0, .slice none 0 0, rfl, (rdN (K := [0])), (rdN (K := [0]))⟩))
 ·replace hm := bf hm hc14
  refine Cw.skip (Cw.seq ?_)
  obtain ⟨K20, hK20, hm⟩ := jn_e hm
  refine Cw.join 15 32 [32] (fun l w => ∃ (y18 : Bool) (W19 : CW), W19.w = w ∧ Le [] W10 W19 ∧ l = [vB y18] ∧ K20 y18 = some r) ?_ ?_
  ·rintro _ _ σ ⟨y18, W19, rfl, l19, rfl, hm⟩
   rw [hK20] at hm
   have a21 := a11.n l19
   have b23 := (b3.up l10 rfl).up l19 rfl
   refine Cw.cond (b := y18) rfl (fun hc24 => ?_) (fun hc24 => ?_)
   ·replace hm := bt hm hc24
    refine Cw.seq (Cw.region (Lw.r rfl (R.lda (cs := [v0_0_, v0_1_]) (b12.up l19 rfl).cells rfl rfl) ?_))
    obtain ⟨z27, e28, hm⟩ := ob hm
    refine Lw.t rfl (T.call rfl (p58 (K := [0]) (k0 := 4) (k1 := 5) (Repo.rd (K := [0]) x0.Commits x0.Heads (h0_0.ul a21) (h0_1.ul a21)) e28)) ?_
    rintro _ _ ⟨W29, rfl, l29, ⟨v0_0_29, v0_1_29, rfl, f29_0, f29_1⟩⟩
    have a30 := a21.n l29
    refine Lw.u (T.sta (vs := [v0_0_29, v0_1_29]) (b23.up l29 rfl) rfl rfl (oc_cons f29_0.oc (oc_cons f29_1.oc oc_nil)) rfl rfl) ?_
    rintro _ _ ⟨W33, rfl, l33, b33⟩
    have a34 := a30.t l33 rfl
    refine Lw.g (vI 1) rfl (Lw.nil ?_)
    obtain ⟨W38, ew38, l38, dj38⟩ := dyeE _ 4
    have s39 : Rd (α := List Vm.Commit) W38 [0] [v0_0_29] z27.Commits := by rw [dj38]; exact ((f29_0.up l33 rfl).rd.dye 4).sub (M := [0]) rfl
    have a40 := a34.t l38 rfl
    obtain ⟨W44, ew44, l44, dj44⟩ := dyeE _ 5
    have s45 : Rd (α := List Vm.Head) W44 [0] [v0_1_29] z27.Heads := by rw [dj44]; exact (((f29_1.up l33 rfl).up l38 rfl).rd.dye 5).sub (M := [0]) rfl
    have a46 := l44.s rfl
    cases hm
    rw [← ew44.trans (ew38)]
    exact Cw.ret (retA2 rfl ((b33.up l38 rfl).up l44 rfl) rfl (Res.mk (a40.trans a46) ⟨v0_0_29, v0_1_29, rfl, (s39.ul a46), s45⟩))
   ·replace hm := bf hm hc24
    refine Cw.skip (Cw.seq (Cw.region (Lw.r rfl (R.lda (cs := [v0_0_, v0_1_]) (b12.up l19 rfl).cells rfl rfl) ?_)))
    obtain ⟨z52, e53, hm⟩ := ob hm
    refine Lw.t rfl (T.call rfl (p58 (K := [0]) (k0 := 6) (k1 := 7) (Repo.rd (K := [0]) x0.Commits x0.Heads (h0_0.ul a21) (h0_1.ul a21)) e53)) ?_
    rintro _ _ ⟨W54, rfl, l54, ⟨v0_0_54, v0_1_54, rfl, f54_0, f54_1⟩⟩
    have a55 := a21.n l54
    refine Lw.t rfl (T.alloc 8 (cs := [.slice none 0 0, .slice none 0 0]) rfl) ?_
    rintro _ _ ⟨g58, W58, rfl, rfl, l58, b58⟩
    have a59 := a55.n l58
    refine Lw.u (T.sta (vs := [v0_0_54, v0_1_54]) b58 rfl rfl (oc_cons (f54_0.up l58 rfl).oc (oc_cons (f54_1.up l58 rfl).oc oc_nil)) rfl rfl) ?_
    rintro _ _ ⟨W64, rfl, l64, b64⟩
    have a65 := a59.t l64 rfl
    refine Lw.nil (Cw.seq (Cw.draw [] [(0, 1), (1, 0), (2, 0), (3, 0), (4, 1), (5, 0), (6, 0), (7, 0), (8, 1), (9, 1), (10, 0), (11, 2), (12, 2), (13, 0), (14, 0), (15, 3), (16, 0)] mixed (by kernel_rfl) fun W70 l70 => ?_))
    have a71 := a65.n l70
    have o72 := ((f54_0.up l58 rfl).up l64 rfl).up l70 rfl
    have o73 := ((f54_1.up l58 rfl).up l64 rfl).up l70 rfl
    have b76 := b64.up l70 rfl
    refine Mw.q rfl rfl (fun _ c => R.lda (cs := [v0_0_54, v0_1_54]) (b76.clcs rfl c) rfl rfl) (Mw.p rfl rfl (fun _ => R.mv (v := vS x1) rfl) (Mw.p rfl rfl (fun _ => R.mv (v := vS x2) rfl) (Mw.p rfl rfl (fun _ => R.fa rfl) (Mw.q rfl rfl (fun _ c => R.ld (v := v0_0_54) rfl rfl (b76.clc rfl rfl c)) (Mw.p rfl rfl (fun _ => R.mv (v := vI x3) rfl) ?_)))))
    obtain ⟨u77, e78, hm⟩ := ob hm
    refine Mw.p rfl rfl (fun _ => R.ix (α := Commit) o72.rd e78 rfl rfl rfl) (Mw.p rfl rfl (fun _ => R.fa rfl) ?_)
    obtain ⟨v79, c80, r81⟩ := (Commit.at2 (o72.rd.at_ e78)).cell rfl
    refine Mw.q rfl rfl (fun _ c => R.ld rfl rfl (cl_cell (Commit.at2 (o72.rd.at_ e78)).1 rfl c80 c)) (Mw.q rfl rfl (fun _ c => R.lda (cs := [v0_0_54, v0_1_54]) (b76.clcs rfl c) rfl rfl) (Mw.p rfl rfl (fun _ => R.mv (v := vI x3) rfl) ?_))
    obtain ⟨z82, e83, hm⟩ := ob hm
    refine Mw.t rfl rfl (T.call rfl (p100 (K := [6, 7])  (x0 := (Vm.Repo.mk z52.Commits z52.Heads)) (Repo.rd (K := [6, 7]) z52.Commits z52.Heads (o72.rd.sub (M := [6, 7]) rfl) (o73.rd.sub (M := [6, 7]) rfl)) e83)) ?_
    rintro v0_84 _ ⟨W84, rfl, l84, ⟨_, rfl, f84_0⟩⟩
    have s85 := f84_0.sub (M := [0, 6, 7]) rfl
    have a86 := a71.n l84
    refine ⟨⟨_, rfl, (l84.sub (M := []) rfl)⟩, ?_⟩
    have s92 := r81.up (l84.sub (M := []) rfl) rfl
    obtain ⟨z93, e94, hm⟩ := ob hm
    refine Mw.t rfl rfl (T.call rfl (p99 (K := [0, 6, 7])  (x0 := (Vm.Repo.mk z52.Commits z52.Heads)) ((Repo.rd (K := [6, 7]) z52.Commits z52.Heads ((o72.up l84 rfl).rd.sub (M := [6, 7]) rfl) ((o73.up l84 rfl).rd.sub (M := [6, 7]) rfl)).sub (M := [0, 6, 7]) rfl) (s92.sub (M := [0, 6, 7]) rfl) s85 e94)) ?_
    rintro _ _ ⟨W95, rfl, l95, ⟨v0_0_95, v0_1_95, rfl, f95_0, f95_1⟩⟩
    have s96 := f95_0.sub (M := [0, 6, 7]) rfl
    have s97 := f95_1.sub (M := [0, 6, 7]) rfl
    have a98 := a86.n l95
    refine ⟨⟨_, rfl, ((l84.sub (M := []) rfl).trans (l95.sub (M := []) rfl))⟩, ?_⟩
    refine Mw.p rfl rfl (fun _ => R.ext (vs := [.agg [v0_0_95, v0_1_95].toArray, vI z93.2]) (v := .agg [v0_0_95, v0_1_95].toArray) rfl rfl) (Mw.p rfl rfl (fun _ => R.ext (vs := [.agg [v0_0_95, v0_1_95].toArray, vI z93.2]) (v := vI z93.2) rfl rfl) (Mw.lu rfl (T.sta (vs := [v0_0_95, v0_1_95]) ((((((b23.up l54 rfl).up l58 rfl).up l64 rfl).up l70 rfl).up l84 rfl).up l95 rfl) rfl rfl (oc_cons s96.oc (oc_cons s97.oc oc_nil)) rfl rfl) ?_))
    rintro _ _ ⟨W104, rfl, l104, b104⟩
    have a105 := a98.t l104 rfl
    refine Mw.p rfl rfl (fun _ => R.as (v := vI z93.2) rfl) (Mw.nil ?_)
    have s110 := r81.up ((l84.sub (M := [3]) rfl).trans ((l95.sub (M := [3]) rfl).trans (l104.sub (M := [3]) rfl))) rfl
    have s111 := s85.up ((l95.sub (M := [3]) rfl).trans (l104.sub (M := [3]) rfl)) rfl
    have s112 := s96.up (l104.sub (M := [3]) rfl) rfl
    have s113 := s97.up (l104.sub (M := [3]) rfl) rfl
    obtain ⟨W114, ew114, l114, dj114⟩ := dyeE _ 6
    have s115 : Rd W114 [0] [v79] u77.Tree := by rw [dj114]; exact (s110.dye 6).sub (M := [0]) rfl
    have s116 : Rd W114 [0, 7] [v0_84] z82 := by rw [dj114]; exact (s111.dye 6).sub (M := [0, 7]) rfl
    have s117 : Rd W114 [0, 7] [v0_0_95] z93.1.Commits := by rw [dj114]; exact (s112.dye 6).sub (M := [0, 7]) rfl
    have s118 : Rd W114 [0, 7] [v0_1_95] z93.1.Heads := by rw [dj114]; exact (s113.dye 6).sub (M := [0, 7]) rfl
    have s119 : Rd (α := List Vm.Commit) W114 [0] [v0_0_54] z52.Commits := by rw [dj114]; exact ((((o72.up l84 rfl).up l95 rfl).up l104 rfl).rd.dye 6).sub (M := [0]) rfl
    have a120 := a105.t l114 rfl
    obtain ⟨W125, ew125, l125, dj125⟩ := dyeE _ 7
    have s126 : Rd W125 [0] [v0_84] z82 := by rw [dj125]; exact (s116.dye 7).sub (M := [0]) rfl
    have s127 : Rd W125 [0] [v0_0_95] z93.1.Commits := by rw [dj125]; exact (s117.dye 7).sub (M := [0]) rfl
    have s128 : Rd W125 [0] [v0_1_95] z93.1.Heads := by rw [dj125]; exact (s118.dye 7).sub (M := [0]) rfl
    have s129 : Rd (α := List Vm.Head) W125 [0] [v0_1_54] z52.Heads := by rw [dj125]; exact (((((o73.up l84 rfl).up l95 rfl).up l104 rfl).up l114 rfl).rd.dye 7).sub (M := [0]) rfl
    have a130 := a120.t l125 rfl
    cases hm
    rw [← ew125.trans (ew114)]
    exact Cw.ret (retA2 rfl ((b104.up l114 rfl).up l125 rfl) rfl (Res.mk a130 ⟨v0_0_95, v0_1_95, rfl, s127, s128⟩))
  ·refine Cw.region (Lw.r rfl (R.lda (cs := [v0_0_, v0_1_]) b12.cells rfl rfl) (Lw.m (vS x1) rfl ?_))
   obtain ⟨z136, e137, hm⟩ := ob hm
   refine Lw.t rfl (T.call rfl (p77 (K := [0])  (Repo.rd (K := [0]) x0.Commits x0.Heads (h0_0.ul a11) (h0_1.ul a11)) e137)) ?_
   rintro _ _ ⟨W138, rfl, l138, rfl⟩
   have a139 := a11.n l138
   refine Lw.lt rfl (Lw.m (vB (decide ((z136 : Int) < (0 : Int)))) rfl (bsplit (decide ((z136 : Int) < (0 : Int))) (fun hc142 => ?_) (fun hc142 => ?_)))
   ·replace hm := bt hm hc142
    refine Lw.ps hc142 rfl (Lw.ps hc142 rfl (Lw.ps hc142 rfl (Lw.p hc142 (vB true) rfl (Lw.m (vB true) rfl (Lw.ps rfl rfl (Lw.ps rfl rfl (Lw.ps rfl rfl (Lw.ps rfl rfl (Lw.ps rfl rfl (Lw.ps rfl rfl (Lw.ps rfl rfl (Lw.p rfl (vB true) rfl (Lw.nil (⟨?_, ⟨true, W138, rfl, l138, rfl, hm⟩⟩))))))))))))))
    iterate 18 (refine .u ?_)
    exact Agree.refl _
   ·replace hm := bf hm hc142
    refine Lw.wa hc142 rfl (Lw.m (vS x2) rfl (Lw.wa hc142 rfl ?_))
    obtain ⟨z143, e144, hm⟩ := ob hm
    refine Lw.t rfl (T.call rfl (p51 (K := [0])   e144)) ?_
    rintro _ _ ⟨W145, rfl, l145, rfl⟩
    have a146 := a139.n l145
    refine Lw.wa hc142 rfl (Lw.r rfl (R.not rfl) (Lw.p hc142 (vB (!z143)) rfl (Lw.m (vB (!z143)) rfl (bsplit (!z143) (fun hc149 => ?_) (fun hc149 => ?_)))))
    ·replace hm := bt hm hc149
     refine Lw.ps hc149 rfl (Lw.ps hc149 rfl (Lw.ps hc149 rfl (Lw.ps hc149 rfl (Lw.ps hc149 rfl (Lw.ps hc149 rfl (Lw.ps hc149 rfl (Lw.p hc149 (vB true) rfl (Lw.nil (⟨?_, ⟨true, W145, rfl, (l138.trans l145), rfl, hm⟩⟩)))))))))
     iterate 18 (refine .u ?_)
     exact Agree.refl _
    ·replace hm := bf hm hc149
     refine Lw.wa hc149 rfl (Lw.m (vI x3) rfl (Lw.wa hc149 rfl (Lw.fa rfl (Lw.wa hc149 rfl (Lw.r rfl (R.ld (v := v0_0_) rfl rfl (((b12.up l138 rfl).up l145 rfl).cell rfl)) (Lw.wa hc149 rfl (Lw.ln x0.Commits (h0_0.ul a146) rfl (Lw.wa hc149 rfl (Lw.sub rfl (Lw.wa hc149 rfl ?_))))))))))
     obtain ⟨z151, e152, hm⟩ := ob hm
     refine Lw.t rfl (T.call rfl (p31 (K := [0])   e152)) ?_
     rintro _ _ ⟨W153, rfl, l153, rfl⟩
     refine Lw.wa hc149 rfl (Lw.r rfl (R.not rfl) (Lw.p hc149 (vB (!z151)) rfl (Lw.nil (⟨?_, ⟨(!z151), W153, rfl, (l138.trans (l145.trans l153)), rfl, hm⟩⟩))))
     iterate 18 (refine .u ?_)
     exact Agree.refl _

theorem p85 {W : CW} {K : List Nat} {x0 : Vm.Repo} {v0_0_ : Value} {v0_1_ : Value} {x1 : Str} {x2 : Str} {x3 : Int} {r : Vm.Repo × Int} (h0 : Rd W K [v0_0_, v0_1_] x0) (hm : Vm.spec_PickBack x0 x1 x2 x3 = some r) : CallR Tryz.prog 85 [.agg [v0_0_, v0_1_].toArray, vS x1, vS x2, vI x3].toArray W.w (Res W [] fun W' v => ∃ (u0_0 : Value) (u0_1 : Value), v = .tuple [.agg [u0_0, u0_1].toArray, vI r.2].toArray ∧ Rd W' (0 :: K) [u0_0] r.1.Commits ∧ Rd W' (0 :: K) [u0_1] r.1.Heads) :=
 (c85 (V := W.view K []) (h0.view _) hm).ad (fk 0) fun _ _ ⟨u0_0, u0_1, e, f0, f1⟩ => ⟨u0_0, u0_1, e, f0.back rfl, f1.back rfl⟩

end Go.Sx
