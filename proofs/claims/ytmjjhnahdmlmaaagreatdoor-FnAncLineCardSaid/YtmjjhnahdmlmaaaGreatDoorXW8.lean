/- Walks: each function answers as its model, printed by a program of ours. Conditions: the arguments read as they are given. -/
import Derived.Test.YtmjjhnahdmlmaaaGreatDoorXTs
import Derived.Test.YtmjjhnahdmlmaaaGreatDoorXMd
import Derived.Test.YtmjjhnahdmlmaaaGreatDoorXW0
import Derived.Test.YtmjjhnahdmlmaaaGreatDoorXW1
import Derived.Test.YtmjjhnahdmlmaaaGreatDoorXW2
import Derived.Test.YtmjjhnahdmlmaaaGreatDoorXW3
import Derived.Test.YtmjjhnahdmlmaaaGreatDoorXW4
import Derived.Test.YtmjjhnahdmlmaaaGreatDoorXW7
namespace Go.Sx
open Go Go.Proofs Go.Vm Rp
set_option linter.unusedVariables false
set_option linter.unusedSimpArgs false

theorem c68 {V : CW} {x0 : Vm.Repo} {v0_0_ : Value} {v0_1_ : Value} {x1 : Vm.Op} {v1_6_ : Value} {r : Vm.Repo × Int} (h0 : Rd V [0] [v0_0_, v0_1_] x0) (h1 : Rd V [0] [vI x1.Kind, vS x1.Branch, vS x1.Who, vS x1.Path, vS x1.To, vI x1.At, v1_6_] x1) (hm : Vm.spec_l19Do x0 x1 = some r) : CallR Tryz.prog 68 [.agg [v0_0_, v0_1_].toArray, .agg [vI x1.Kind, vS x1.Branch, vS x1.Who, vS x1.Path, vS x1.To, vI x1.At, v1_6_].toArray].toArray V.w (Res V LL fun Wf v => ∃ (u0_0 : Value) (u0_1 : Value), v = .tuple [.agg [u0_0, u0_1].toArray, vI r.2].toArray ∧ Rd Wf [0] [u0_0] r.1.Commits ∧ Rd Wf [0] [u0_1] r.1.Heads) := by
 unfold Vm.spec_l19Do at hm
 obtain ⟨w0_0, w0_1, he0, h0_0, h0_1⟩ := Repo.split h0
 simp only [List.cons.injEq, and_true, true_and] at he0
 obtain ⟨rfl, rfl⟩ := he0
 obtain ⟨w1_0, he1, h1_6⟩ := Op.split h1
 simp only [List.cons.injEq, and_true, true_and] at he1
 obtain rfl := he1
 obtain ⟨W0, hW0⟩ : ∃ W, W = V := ⟨V, rfl⟩
 subst hW0
 refine CallR.of Tryz.func68 rfl rfl rfl rfl (Cw.seq (Cw.region (Lw.t rfl (T.box 2 (v := .agg [v0_0_, v0_1_].toArray) (cs := [v0_0_, v0_1_]) rfl rfl) ?_)))
 rintro _ _ ⟨g1, W1, rfl, rfl, l1, b1⟩
 have a2 := l1.o
 refine Lw.t rfl (T.box 3 (v := .agg [vI x1.Kind, vS x1.Branch, vS x1.Who, vS x1.Path, vS x1.To, vI x1.At, v1_6_].toArray) (cs := [vI x1.Kind, vS x1.Branch, vS x1.Who, vS x1.Path, vS x1.To, vI x1.At, v1_6_]) rfl rfl) ?_
 rintro _ _ ⟨g3, W3, rfl, rfl, l3, b3⟩
 have a4 := a2.n l3
 refine Lw.t rfl (T.alloc 4 (cs := [.slice none 0 0, .slice none 0 0]) rfl) ?_
 rintro _ _ ⟨g6, W6, rfl, rfl, l6, b6⟩
 have a7 := a4.n l6
 have b8 := (b1.up l3 rfl).up l6 rfl
 refine Lw.g (vI 0) rfl (Lw.nil (Cw.seq (Cw.region (Lw.r rfl (R.lda (cs := [v0_0_, v0_1_]) b8.cells rfl rfl) (Lw.fa rfl (Lw.r rfl (R.ld (v := vS x1.Branch) rfl rfl ((b3.up l6 rfl).cell rfl)) ?_))))))
 obtain ⟨z12, e13, hm⟩ := ob hm
 refine Lw.t rfl (T.call rfl (p77 (K := [0])  (Repo.rd (K := [0]) x0.Commits x0.Heads (h0_0.ul a7) (h0_1.ul a7)) e13)) ?_
 rintro _ _ ⟨W14, rfl, l14, rfl⟩
 have a15 := a7.n l14
 refine Lw.g (vI z12) rfl (Lw.nil (Cw.seq (Cw.region (Lw.t rfl (T.lit0 (α := File) 5 []) ?_))))
 rintro v19 _ ⟨W19, rfl, l19, o19⟩
 have a20 := a15.n l19
 refine Lw.g v19 rfl (Lw.nil ?_)
 obtain ⟨W24, ew24, l24, dj24⟩ := dyeE _ 5
 rw [← ew24]
 have s25 : Rd (α := List Vm.File) W24 [0] [v19] ([] : List File) := by rw [dj24]; exact (o19.rd.dye 5).sub (M := [0]) rfl
 have a26 := a20.t l24 rfl
 have b27 := ((b8.up l14 rfl).up l19 rfl).up l24 rfl
 obtain ⟨K34, hK34, hm⟩ := jn_e hm
 refine Cw.join 21 28 [7] (fun l w => ∃ (y30 : List Vm.File) (v31 : Value) (W33 : CW), W33.w = w ∧ Le [] W24 W33 ∧ l = [v31] ∧ Rd W33 [0] [v31] y30 ∧ K34 y30 = some r) ?_ ?_
 ·rintro _ _ σ ⟨y30, v31, W33, rfl, l33, rfl, r32, hm⟩
  rw [hK34] at hm
  have a35 := a26.n l33
  have b36 := b27.up l33 rfl
  have b37 := ((((b3.up l6 rfl).up l14 rfl).up l19 rfl).up l24 rfl).up l33 rfl
  have b38 := (((b6.up l14 rfl).up l19 rfl).up l24 rfl).up l33 rfl
  refine Cw.seq (Cw.seq (Cw.region (Lw.fa rfl (Lw.r rfl (R.ld (v := vI x1.Kind) rfl rfl (b37.cell rfl)) (Lw.nil (Cw.block (Cw.seq (Cw.region (Lw.eq rfl (Lw.g (vB ((x1.Kind : Int) == (1 : Int))) rfl (Lw.nil (Cw.cond (b := ((x1.Kind : Int) == (1 : Int))) rfl (fun hc39 => ?_) (fun hc39 => ?_)))))))))))))
  ·replace hm := bt hm hc39
   refine Cw.seq (Cw.region (Lw.m v31 rfl (Lw.fa rfl (Lw.r rfl (R.ld (v := vS x1.Path) rfl rfl (b37.cell rfl)) (Lw.fa rfl (Lw.r rfl (R.ld (v := v1_6_) rfl rfl (b37.cell rfl)) (Lw.r rfl (R.bd (zs := [vS ([] : Str), .slice none 0 0]) (cs := [vS x1.Path, v1_6_]) [(0, vS x1.Path), (1, v1_6_)] rfl rfl rfl (bp_cons rfl rfl (bp_cons h1_6.oc rfl bp_nil))) ?_)))))))
   obtain ⟨z41, e42, hm⟩ := ob hm
   refine Lw.t rfl (T.call rfl (p78 (K := [0]) (k0 := 6) (x1 := (Vm.File.mk x1.Path x1.Text)) r32 (File.rd (K := [0]) x1.Path x1.Text (h1_6.ul a35)) e42)) ?_
   rintro _ _ ⟨W43, rfl, l43, ⟨v0_43, rfl, f43_0⟩⟩
   have o44 : Ow (α := List (Sh Vm.File)) W43 6 [0] [v0_43] z41.1 := f43_0.sub rfl
   have a45 := a35.n l43
   refine Lw.m (.tuple [v0_43, vB z41.2].toArray) rfl (Lw.r rfl (R.ext (vs := [v0_43, vB z41.2]) (v := v0_43) rfl rfl) (Lw.r rfl (R.ext (vs := [v0_43, vB z41.2]) (v := vB z41.2) rfl rfl) (Lw.g v0_43 rfl (Lw.g (vB z41.2) rfl (Lw.nil (Cw.seq (Cw.region (Lw.r rfl (R.lda (cs := [v0_0_, v0_1_]) (b36.up l43 rfl).cells rfl rfl) (Lw.r rfl (R.lda (cs := [vI x1.Kind, vS x1.Branch, vS x1.Who, vS x1.Path, vS x1.To, vI x1.At, v1_6_]) (b37.up l43 rfl).cells rfl rfl) (Lw.m v0_43 rfl (Lw.m (vB z41.2) rfl ?_)))))))))))
   have s52 : Rd (α := List Vm.File) W43 [6, 0] [v0_43] z41.1 := Ow.rdSh o44
   obtain ⟨z53, e54, hm⟩ := ob hm
   refine Lw.t rfl (T.call rfl (p79 (K := [0, 6])  ((Repo.rd (K := [0]) x0.Commits x0.Heads (h0_0.ul a45) (h0_1.ul a45)).sub (M := [0, 6]) rfl) ((Op.rd (K := [0]) x1.Kind x1.Branch x1.Who x1.Path x1.To x1.At x1.Text (h1_6.ul a45)).sub (M := [0, 6]) rfl) (s52.sub (M := [0, 6]) rfl) e54)) ?_
   rintro _ _ ⟨W55, rfl, l55, ⟨v0_0_55, v0_1_55, rfl, f55_0, f55_1⟩⟩
   have s56 := f55_0.sub (M := [0, 6]) rfl
   have s57 := f55_1.sub (M := [0, 6]) rfl
   have a58 := a45.n l55
   refine Lw.r rfl (R.ext (vs := [.agg [v0_0_55, v0_1_55].toArray, vI z53.2]) (v := .agg [v0_0_55, v0_1_55].toArray) rfl rfl) (Lw.r rfl (R.ext (vs := [.agg [v0_0_55, v0_1_55].toArray, vI z53.2]) (v := vI z53.2) rfl rfl) (Lw.u (T.sta (vs := [v0_0_55, v0_1_55]) ((b38.up l43 rfl).up l55 rfl) rfl rfl (oc_cons s56.oc (oc_cons s57.oc oc_nil)) rfl rfl) ?_))
   rintro _ _ ⟨W63, rfl, l63, b63⟩
   have a64 := a58.t l63 rfl
   refine Lw.g (vI z53.2) rfl (Lw.nil ?_)
   have s68 := s56.up (l63.sub (M := [4]) rfl) rfl
   have s69 := s57.up (l63.sub (M := [4]) rfl) rfl
   obtain ⟨W70, ew70, l70, dj70⟩ := dyeE _ 6
   have s71 : Rd W70 [0] [v0_0_55] z53.1.Commits := by rw [dj70]; exact (s68.dye 6).sub (M := [0]) rfl
   have s72 : Rd W70 [0] [v0_1_55] z53.1.Heads := by rw [dj70]; exact (s69.dye 6).sub (M := [0]) rfl
   have s73 : Rd (α := List Vm.File) W70 [0] [v0_43] z41.1 := by rw [dj70]; exact (((o44.up l55 rfl).up l63 rfl).rd.dye 6).sub (M := [0]) rfl
   have a74 := a64.t l70 rfl
   cases hm
   rw [← ew70]
   exact Cw.ret (retA2 rfl (b63.up l70 rfl) rfl (Res.mk a74 ⟨v0_0_55, v0_1_55, rfl, s71, s72⟩))
  ·replace hm := bf hm hc39
   refine Cw.seq (Cw.region (Lw.eq rfl (Lw.g (vB ((x1.Kind : Int) == (2 : Int))) rfl (Lw.nil (Cw.cond (b := ((x1.Kind : Int) == (2 : Int))) rfl (fun hc78 => ?_) (fun hc78 => ?_))))))
   ·replace hm := bt hm hc78
    refine Cw.seq (Cw.region (Lw.m v31 rfl (Lw.fa rfl (Lw.r rfl (R.ld (v := vS x1.Path) rfl rfl (b37.cell rfl)) ?_))))
    obtain ⟨z79, e80, hm⟩ := ob hm
    refine Lw.t rfl (T.call rfl (p80 (K := [0]) (k0 := 7) r32 e80)) ?_
    rintro _ _ ⟨W81, rfl, l81, ⟨v0_81, rfl, f81_0⟩⟩
    have o82 : Ow (α := List (Sh Vm.File)) W81 7 [0] [v0_81] z79.1 := f81_0.sub rfl
    have a83 := a35.n l81
    refine Lw.m (.tuple [v0_81, vB z79.2].toArray) rfl (Lw.r rfl (R.ext (vs := [v0_81, vB z79.2]) (v := v0_81) rfl rfl) (Lw.r rfl (R.ext (vs := [v0_81, vB z79.2]) (v := vB z79.2) rfl rfl) (Lw.g v0_81 rfl (Lw.g (vB z79.2) rfl (Lw.nil (Cw.seq (Cw.region (Lw.r rfl (R.lda (cs := [v0_0_, v0_1_]) (b36.up l81 rfl).cells rfl rfl) (Lw.r rfl (R.lda (cs := [vI x1.Kind, vS x1.Branch, vS x1.Who, vS x1.Path, vS x1.To, vI x1.At, v1_6_]) (b37.up l81 rfl).cells rfl rfl) (Lw.m v0_81 rfl (Lw.m (vB z79.2) rfl ?_)))))))))))
    have s90 : Rd (α := List Vm.File) W81 [7, 0] [v0_81] z79.1 := Ow.rdSh o82
    obtain ⟨z91, e92, hm⟩ := ob hm
    refine Lw.t rfl (T.call rfl (p79 (K := [0, 7])  ((Repo.rd (K := [0]) x0.Commits x0.Heads (h0_0.ul a83) (h0_1.ul a83)).sub (M := [0, 7]) rfl) ((Op.rd (K := [0]) x1.Kind x1.Branch x1.Who x1.Path x1.To x1.At x1.Text (h1_6.ul a83)).sub (M := [0, 7]) rfl) (s90.sub (M := [0, 7]) rfl) e92)) ?_
    rintro _ _ ⟨W93, rfl, l93, ⟨v0_0_93, v0_1_93, rfl, f93_0, f93_1⟩⟩
    have s94 := f93_0.sub (M := [0, 7]) rfl
    have s95 := f93_1.sub (M := [0, 7]) rfl
    have a96 := a83.n l93
    refine Lw.r rfl (R.ext (vs := [.agg [v0_0_93, v0_1_93].toArray, vI z91.2]) (v := .agg [v0_0_93, v0_1_93].toArray) rfl rfl) (Lw.r rfl (R.ext (vs := [.agg [v0_0_93, v0_1_93].toArray, vI z91.2]) (v := vI z91.2) rfl rfl) (Lw.u (T.sta (vs := [v0_0_93, v0_1_93]) ((b38.up l81 rfl).up l93 rfl) rfl rfl (oc_cons s94.oc (oc_cons s95.oc oc_nil)) rfl rfl) ?_))
    rintro _ _ ⟨W101, rfl, l101, b101⟩
    have a102 := a96.t l101 rfl
    refine Lw.g (vI z91.2) rfl (Lw.nil ?_)
    have s106 := s94.up (l101.sub (M := [4]) rfl) rfl
    have s107 := s95.up (l101.sub (M := [4]) rfl) rfl
    obtain ⟨W108, ew108, l108, dj108⟩ := dyeE _ 7
    have s109 : Rd W108 [0] [v0_0_93] z91.1.Commits := by rw [dj108]; exact (s106.dye 7).sub (M := [0]) rfl
    have s110 : Rd W108 [0] [v0_1_93] z91.1.Heads := by rw [dj108]; exact (s107.dye 7).sub (M := [0]) rfl
    have s111 : Rd (α := List Vm.File) W108 [0] [v0_81] z79.1 := by rw [dj108]; exact (((o82.up l93 rfl).up l101 rfl).rd.dye 7).sub (M := [0]) rfl
    have a112 := a102.t l108 rfl
    cases hm
    rw [← ew108]
    exact Cw.ret (retA2 rfl (b101.up l108 rfl) rfl (Res.mk a112 ⟨v0_0_93, v0_1_93, rfl, s109, s110⟩))
   ·replace hm := bf hm hc78
    refine Cw.seq (Cw.region (Lw.eq rfl (Lw.g (vB ((x1.Kind : Int) == (3 : Int))) rfl (Lw.nil (Cw.cond (b := ((x1.Kind : Int) == (3 : Int))) rfl (fun hc116 => ?_) (fun hc116 => ?_))))))
    ·replace hm := bt hm hc116
     refine Cw.seq (Cw.region (Lw.m v31 rfl (Lw.fa rfl (Lw.r rfl (R.ld (v := vS x1.Path) rfl rfl (b37.cell rfl)) (Lw.fa rfl (Lw.r rfl (R.ld (v := vS x1.To) rfl rfl (b37.cell rfl)) ?_))))))
     obtain ⟨z117, e118, hm⟩ := ob hm
     refine Lw.t rfl (T.call rfl (p81 (K := [0]) (k0 := 8) r32 e118)) ?_
     rintro _ _ ⟨W119, rfl, l119, ⟨v0_119, rfl, f119_0⟩⟩
     have o120 : Ow (α := List (Sh Vm.File)) W119 8 [0] [v0_119] z117.1 := f119_0.sub rfl
     have a121 := a35.n l119
     refine Lw.m (.tuple [v0_119, vB z117.2].toArray) rfl (Lw.r rfl (R.ext (vs := [v0_119, vB z117.2]) (v := v0_119) rfl rfl) (Lw.r rfl (R.ext (vs := [v0_119, vB z117.2]) (v := vB z117.2) rfl rfl) (Lw.g v0_119 rfl (Lw.g (vB z117.2) rfl (Lw.nil (Cw.seq (Cw.region (Lw.r rfl (R.lda (cs := [v0_0_, v0_1_]) (b36.up l119 rfl).cells rfl rfl) (Lw.r rfl (R.lda (cs := [vI x1.Kind, vS x1.Branch, vS x1.Who, vS x1.Path, vS x1.To, vI x1.At, v1_6_]) (b37.up l119 rfl).cells rfl rfl) (Lw.m v0_119 rfl (Lw.m (vB z117.2) rfl ?_)))))))))))
     have s128 : Rd (α := List Vm.File) W119 [8, 0] [v0_119] z117.1 := Ow.rdSh o120
     obtain ⟨z129, e130, hm⟩ := ob hm
     refine Lw.t rfl (T.call rfl (p79 (K := [0, 8])  ((Repo.rd (K := [0]) x0.Commits x0.Heads (h0_0.ul a121) (h0_1.ul a121)).sub (M := [0, 8]) rfl) ((Op.rd (K := [0]) x1.Kind x1.Branch x1.Who x1.Path x1.To x1.At x1.Text (h1_6.ul a121)).sub (M := [0, 8]) rfl) (s128.sub (M := [0, 8]) rfl) e130)) ?_
     rintro _ _ ⟨W131, rfl, l131, ⟨v0_0_131, v0_1_131, rfl, f131_0, f131_1⟩⟩
     have s132 := f131_0.sub (M := [0, 8]) rfl
     have s133 := f131_1.sub (M := [0, 8]) rfl
     have a134 := a121.n l131
     refine Lw.r rfl (R.ext (vs := [.agg [v0_0_131, v0_1_131].toArray, vI z129.2]) (v := .agg [v0_0_131, v0_1_131].toArray) rfl rfl) (Lw.r rfl (R.ext (vs := [.agg [v0_0_131, v0_1_131].toArray, vI z129.2]) (v := vI z129.2) rfl rfl) (Lw.u (T.sta (vs := [v0_0_131, v0_1_131]) ((b38.up l119 rfl).up l131 rfl) rfl rfl (oc_cons s132.oc (oc_cons s133.oc oc_nil)) rfl rfl) ?_))
     rintro _ _ ⟨W139, rfl, l139, b139⟩
     have a140 := a134.t l139 rfl
     refine Lw.g (vI z129.2) rfl (Lw.nil ?_)
     have s144 := s132.up (l139.sub (M := [4]) rfl) rfl
     have s145 := s133.up (l139.sub (M := [4]) rfl) rfl
     obtain ⟨W146, ew146, l146, dj146⟩ := dyeE _ 8
     have s147 : Rd W146 [0] [v0_0_131] z129.1.Commits := by rw [dj146]; exact (s144.dye 8).sub (M := [0]) rfl
     have s148 : Rd W146 [0] [v0_1_131] z129.1.Heads := by rw [dj146]; exact (s145.dye 8).sub (M := [0]) rfl
     have s149 : Rd (α := List Vm.File) W146 [0] [v0_119] z117.1 := by rw [dj146]; exact (((o120.up l131 rfl).up l139 rfl).rd.dye 8).sub (M := [0]) rfl
     have a150 := a140.t l146 rfl
     cases hm
     rw [← ew146]
     exact Cw.ret (retA2 rfl (b139.up l146 rfl) rfl (Res.mk a150 ⟨v0_0_131, v0_1_131, rfl, s147, s148⟩))
    ·replace hm := bf hm hc116
     refine Cw.seq (Cw.region (Lw.eq rfl (Lw.g (vB ((x1.Kind : Int) == (4 : Int))) rfl (Lw.nil (Cw.cond (b := ((x1.Kind : Int) == (4 : Int))) rfl (fun hc154 => ?_) (fun hc154 => ?_))))))
     ·replace hm := bt hm hc154
      refine Cw.seq (Cw.region (Lw.r rfl (R.lda (cs := [v0_0_, v0_1_]) b36.cells rfl rfl) (Lw.fa rfl (Lw.r rfl (R.ld (v := vS x1.To) rfl rfl (b37.cell rfl)) (Lw.m (vI z12) rfl ?_)))))
      obtain ⟨z157, e158, hm⟩ := ob hm
      refine Lw.t rfl (T.call rfl (p82 (K := [0])  (Repo.rd (K := [0]) x0.Commits x0.Heads (h0_0.ul a35) (h0_1.ul a35)) e158)) ?_
      rintro _ _ ⟨W159, rfl, l159, ⟨v0_0_159, v0_1_159, rfl, f159_0, f159_1⟩⟩
      have s160 := f159_0.sub (M := [0]) rfl
      have s161 := f159_1.sub (M := [0]) rfl
      have a162 := a35.n l159
      refine Lw.m (.tuple [.agg [v0_0_159, v0_1_159].toArray, vB z157.2].toArray) rfl (Lw.r rfl (R.ext (vs := [.agg [v0_0_159, v0_1_159].toArray, vB z157.2]) (v := .agg [v0_0_159, v0_1_159].toArray) rfl rfl) (Lw.r rfl (R.ext (vs := [.agg [v0_0_159, v0_1_159].toArray, vB z157.2]) (v := vB z157.2) rfl rfl) (Lw.t rfl (T.alloc 9 (cs := [.slice none 0 0, .slice none 0 0]) rfl) ?_)))
      rintro _ _ ⟨g166, W166, rfl, rfl, l166, b166⟩
      have a167 := l166.o
      refine Lw.u (T.sta (vs := [v0_0_159, v0_1_159]) b166 rfl rfl (oc_cons s160.oc (oc_cons s161.oc oc_nil)) rfl rfl) ?_
      rintro _ _ ⟨W171, rfl, l171, b171⟩
      have a172 := l171.s rfl
      have b175 := ((b38.up l159 rfl).up l166 rfl).up l171 rfl
      refine Lw.g (vB z157.2) rfl (Lw.nil (Cw.seq (Cw.seq (Cw.region (Lw.m (vB z157.2) rfl (Lw.r rfl (R.not rfl) (Lw.nil (Cw.cond (b := (!z157.2)) rfl (fun hc176 => ?_) (fun hc176 => ?_)))))))))
      ·replace hm := bt hm hc176
       refine Cw.seq (Cw.region (Lw.r rfl (R.lda (cs := [v0_0_, v0_1_]) (((b36.up l159 rfl).up l166 rfl).up l171 rfl).cells rfl rfl) (Lw.u (T.sta (vs := [v0_0_, v0_1_]) b175 rfl rfl (oc_cons h0_0.oc (oc_cons h0_1.oc oc_nil)) rfl rfl) ?_)))
       rintro _ _ ⟨W177, rfl, l177, b177⟩
       have a178 := ((a162.trans a167).trans a172).t l177 rfl
       refine Lw.g (vI 1) rfl (Lw.nil ?_)
       cases hm
       exact Cw.ret (retA2 rfl b177 rfl (Res.mk a178 ⟨v0_0_, v0_1_, rfl, (h0_0.ul a178), (h0_1.ul a178)⟩))
      ·replace hm := bf hm hc176
       refine Cw.skip (Cw.seq (Cw.region (Lw.r rfl (R.lda (cs := [v0_0_159, v0_1_159]) b171.cells rfl rfl) (Lw.u (T.sta (vs := [v0_0_159, v0_1_159]) b175 rfl rfl (oc_cons s160.oc (oc_cons s161.oc oc_nil)) rfl rfl) ?_))))
       rintro _ _ ⟨W184, rfl, l184, b184⟩
       have a185 := l184.s rfl
       refine Lw.g (vI 0) rfl (Lw.nil ?_)
       cases hm
       exact Cw.ret (retA2 rfl b184 rfl (Res.mk (((a162.trans a167).trans a172).trans a185) ⟨v0_0_159, v0_1_159, rfl, (s160.ul ((a167.trans a172).trans a185)), (s161.ul ((a167.trans a172).trans a185))⟩))
     ·replace hm := bf hm hc154
      refine Cw.seq (Cw.region (Lw.eq rfl (Lw.g (vB ((x1.Kind : Int) == (5 : Int))) rfl (Lw.nil (Cw.cond (b := ((x1.Kind : Int) == (5 : Int))) rfl (fun hc191 => ?_) (fun hc191 => ?_))))))
      ·replace hm := bt hm hc191
       refine Cw.seq (Cw.draw [] [(0, 1), (1, 0), (2, 1), (3, 0), (4, 1), (5, 1), (6, 0), (7, 1), (8, 2), (9, 2), (10, 0), (11, 0), (12, 3), (13, 0)] mixed (by kernel_rfl) fun W192 l192 => ?_)
       have a193 := a35.n l192
       have b195 := b37.up l192 rfl
       refine Mw.q rfl rfl (fun _ c => R.lda (cs := [v0_0_, v0_1_]) ((b36.up l192 rfl).clcs rfl c) rfl rfl) (Mw.p rfl rfl (fun _ => R.fa rfl) (Mw.q rfl rfl (fun _ c => R.ld (v := vS x1.Branch) rfl rfl (b195.clc rfl rfl c)) (Mw.p rfl rfl (fun _ => R.fa rfl) (Mw.q rfl rfl (fun _ c => R.ld (v := vS x1.Who) rfl rfl (b195.clc rfl rfl c)) (Mw.q rfl rfl (fun _ c => R.lda (cs := [v0_0_, v0_1_]) ((b36.up l192 rfl).clcs rfl c) rfl rfl) (Mw.p rfl rfl (fun _ => R.fa rfl) (Mw.q rfl rfl (fun _ c => R.ld (v := vS x1.To) rfl rfl (b195.clc rfl rfl c)) ?_)))))))
       obtain ⟨z199, e200, hm⟩ := ob hm
       refine Mw.t rfl rfl (T.call rfl (p77 (K := [0])  (Repo.rd (K := [0]) x0.Commits x0.Heads (h0_0.ul a193) (h0_1.ul a193)) e200)) ?_
       rintro _ _ ⟨W201, rfl, l201, rfl⟩
       have a202 := a193.n l201
       refine ⟨⟨_, rfl, (l201.sub (M := []) rfl)⟩, ?_⟩
       obtain ⟨z208, e209, hm⟩ := ob hm
       refine Mw.t rfl rfl (T.call rfl (p83 (K := [0])  (Repo.rd (K := [0]) x0.Commits x0.Heads (h0_0.ul a202) (h0_1.ul a202)) e209)) ?_
       rintro _ _ ⟨W210, rfl, l210, ⟨v0_0_210, v0_1_210, rfl, f210_0, f210_1⟩⟩
       have s211 := f210_0.sub (M := [0]) rfl
       have s212 := f210_1.sub (M := [0]) rfl
       have a213 := a202.n l210
       refine ⟨⟨_, rfl, ((l201.sub (M := []) rfl).trans (l210.sub (M := []) rfl))⟩, ?_⟩
       refine Mw.p rfl rfl (fun _ => R.ext (vs := [.agg [v0_0_210, v0_1_210].toArray, vI z208.2]) (v := .agg [v0_0_210, v0_1_210].toArray) rfl rfl) (Mw.p rfl rfl (fun _ => R.ext (vs := [.agg [v0_0_210, v0_1_210].toArray, vI z208.2]) (v := vI z208.2) rfl rfl) (Mw.lu rfl (T.sta (vs := [v0_0_210, v0_1_210]) (((b38.up l192 rfl).up l201 rfl).up l210 rfl) rfl rfl (oc_cons s211.oc (oc_cons s212.oc oc_nil)) rfl rfl) ?_))
       rintro _ _ ⟨W217, rfl, l217, b217⟩
       have a218 := l217.s rfl
       refine Mw.p rfl rfl (fun _ => R.as (v := vI z208.2) rfl) (Mw.nil ?_)
       cases hm
       exact Cw.ret (retA2 rfl b217 rfl (Res.mk (a213.trans a218) ⟨v0_0_210, v0_1_210, rfl, (s211.ul a218), (s212.ul a218)⟩))
      ·replace hm := bf hm hc191
       refine Cw.seq (Cw.region (Lw.eq rfl (Lw.g (vB ((x1.Kind : Int) == (6 : Int))) rfl (Lw.nil (Cw.cond (b := ((x1.Kind : Int) == (6 : Int))) rfl (fun hc223 => ?_) (fun hc223 => ?_))))))
       ·replace hm := bt hm hc223
        refine Cw.seq (Cw.region (Lw.r rfl (R.lda (cs := [v0_0_, v0_1_]) b36.cells rfl rfl) (Lw.fa rfl (Lw.r rfl (R.ld (v := vS x1.Branch) rfl rfl (b37.cell rfl)) (Lw.fa rfl (Lw.r rfl (R.ld (v := vS x1.Who) rfl rfl (b37.cell rfl)) (Lw.fa rfl (Lw.r rfl (R.ld (v := vI x1.At) rfl rfl (b37.cell rfl)) ?_))))))))
        obtain ⟨z226, e227, hm⟩ := ob hm
        refine Lw.t rfl (T.call rfl (p84 (K := [0])  (Repo.rd (K := [0]) x0.Commits x0.Heads (h0_0.ul a35) (h0_1.ul a35)) e227)) ?_
        rintro _ _ ⟨W228, rfl, l228, ⟨v0_0_228, v0_1_228, rfl, f228_0, f228_1⟩⟩
        have s229 := f228_0.sub (M := [0]) rfl
        have s230 := f228_1.sub (M := [0]) rfl
        have a231 := a35.n l228
        refine Lw.r rfl (R.ext (vs := [.agg [v0_0_228, v0_1_228].toArray, vI z226.2]) (v := .agg [v0_0_228, v0_1_228].toArray) rfl rfl) (Lw.r rfl (R.ext (vs := [.agg [v0_0_228, v0_1_228].toArray, vI z226.2]) (v := vI z226.2) rfl rfl) (Lw.u (T.sta (vs := [v0_0_228, v0_1_228]) (b38.up l228 rfl) rfl rfl (oc_cons s229.oc (oc_cons s230.oc oc_nil)) rfl rfl) ?_))
        rintro _ _ ⟨W235, rfl, l235, b235⟩
        have a236 := l235.s rfl
        refine Lw.g (vI z226.2) rfl (Lw.nil ?_)
        cases hm
        exact Cw.ret (retA2 rfl b235 rfl (Res.mk (a231.trans a236) ⟨v0_0_228, v0_1_228, rfl, (s229.ul a236), (s230.ul a236)⟩))
       ·replace hm := bf hm hc223
        refine Cw.skip (Cw.seq (Cw.region (Lw.r rfl (R.lda (cs := [v0_0_, v0_1_]) b36.cells rfl rfl) (Lw.fa rfl (Lw.r rfl (R.ld (v := vS x1.Branch) rfl rfl (b37.cell rfl)) (Lw.fa rfl (Lw.r rfl (R.ld (v := vS x1.Who) rfl rfl (b37.cell rfl)) (Lw.fa rfl (Lw.r rfl (R.ld (v := vI x1.At) rfl rfl (b37.cell rfl)) ?_)))))))))
        obtain ⟨z243, e244, hm⟩ := ob hm
        refine Lw.t rfl (T.call rfl (p85 (K := [0])  (Repo.rd (K := [0]) x0.Commits x0.Heads (h0_0.ul a35) (h0_1.ul a35)) e244)) ?_
        rintro _ _ ⟨W245, rfl, l245, ⟨v0_0_245, v0_1_245, rfl, f245_0, f245_1⟩⟩
        have s246 := f245_0.sub (M := [0]) rfl
        have s247 := f245_1.sub (M := [0]) rfl
        have a248 := a35.n l245
        refine Lw.r rfl (R.ext (vs := [.agg [v0_0_245, v0_1_245].toArray, vI z243.2]) (v := .agg [v0_0_245, v0_1_245].toArray) rfl rfl) (Lw.r rfl (R.ext (vs := [.agg [v0_0_245, v0_1_245].toArray, vI z243.2]) (v := vI z243.2) rfl rfl) (Lw.u (T.sta (vs := [v0_0_245, v0_1_245]) (b38.up l245 rfl) rfl rfl (oc_cons s246.oc (oc_cons s247.oc oc_nil)) rfl rfl) ?_))
        rintro _ _ ⟨W252, rfl, l252, b252⟩
        have a253 := l252.s rfl
        refine Lw.g (vI z243.2) rfl (Lw.nil ?_)
        cases hm
        exact Cw.ret (retA2 rfl b252 rfl (Res.mk (a248.trans a253) ⟨v0_0_245, v0_1_245, rfl, (s246.ul a253), (s247.ul a253)⟩))
 ·refine Cw.seq (Cw.region (Lw.m (vI z12) rfl (Lw.ge rfl (Lw.nil (Cw.cond (b := decide ((0 : Int) ≤ (z12 : Int))) rfl (fun hc258 => ?_) (fun hc258 => ?_))))))
  ·replace hm := bt hm hc258
   refine Cw.region (Lw.fa rfl (Lw.r rfl (R.ld (v := v0_0_) rfl rfl (b27.cell rfl)) (Lw.m (vI z12) rfl ?_)))
   obtain ⟨u259, e260, hm⟩ := ob hm
   refine Lw.r rfl (R.ix (α := Commit) (h0_0.ul a26) e260 rfl rfl rfl) (Lw.fa rfl ?_)
   obtain ⟨v262, c263, r264⟩ := (Commit.at2 ((h0_0.ul a26).at_ e260)).cell rfl
   refine Lw.r rfl (R.ld rfl rfl c263) (Lw.g v262 rfl (Lw.nil (⟨?_, ⟨u259.Tree, v262, W24, rfl, Le.refl _ _, rfl, r264, hm⟩⟩)))
   iterate 9 (refine .u ?_)
   exact Agree.refl _
  ·replace hm := bf hm hc258
   refine Cw.skip (⟨?_, ⟨([] : List File), v19, W24, rfl, Le.refl _ _, rfl, s25, hm⟩⟩)
   iterate 2 (refine .u ?_)
   exact Agree.refl _

theorem p68 {W : CW} {K : List Nat} {x0 : Vm.Repo} {v0_0_ : Value} {v0_1_ : Value} {x1 : Vm.Op} {v1_6_ : Value} {r : Vm.Repo × Int} (h0 : Rd W K [v0_0_, v0_1_] x0) (h1 : Rd W K [vI x1.Kind, vS x1.Branch, vS x1.Who, vS x1.Path, vS x1.To, vI x1.At, v1_6_] x1) (hm : Vm.spec_l19Do x0 x1 = some r) : CallR Tryz.prog 68 [.agg [v0_0_, v0_1_].toArray, .agg [vI x1.Kind, vS x1.Branch, vS x1.Who, vS x1.Path, vS x1.To, vI x1.At, v1_6_].toArray].toArray W.w (Res W [] fun W' v => ∃ (u0_0 : Value) (u0_1 : Value), v = .tuple [.agg [u0_0, u0_1].toArray, vI r.2].toArray ∧ Rd W' (0 :: K) [u0_0] r.1.Commits ∧ Rd W' (0 :: K) [u0_1] r.1.Heads) :=
 (c68 (V := W.view K []) (h0.view _) (h1.view _) hm).ad (fk 0) fun _ _ ⟨u0_0, u0_1, e, f0, f1⟩ => ⟨u0_0, u0_1, e, f0.back rfl, f1.back rfl⟩

theorem c59 {V : CW} {x0 : List Vm.Op} {v0_ : Value} {r : Vm.Repo} (h0 : Rd V [0] [v0_] x0) (hm : Vm.spec_RepoPlay x0 = some r) : CallR Tryz.prog 59 [v0_].toArray V.w (Res V LL fun Wf v => ∃ (u0_0 : Value) (u0_1 : Value), v = .agg [u0_0, u0_1].toArray ∧ Rd Wf [0] [u0_0] r.Commits ∧ Rd Wf [0] [u0_1] r.Heads) := by
 unfold Vm.spec_RepoPlay at hm
 obtain ⟨W0, hW0⟩ : ∃ W, W = V := ⟨V, rfl⟩
 subst hW0
 refine CallR.of Tryz.func59 rfl rfl rfl rfl (Cw.seq (Cw.region (Lw.t rfl (T.alloc 2 (cs := [.slice none 0 0, .slice none 0 0]) rfl) ?_)))
 rintro _ _ ⟨g1, W1, rfl, rfl, l1, b1⟩
 have a2 := l1.o
 refine Lw.nil (Cw.seq (Cw.region (Lw.r rfl (R.bd (zs := [.slice none 0 0, .slice none 0 0]) (cs := [.slice none 0 0, .slice none 0 0]) [] rfl rfl rfl bp_nil) (Lw.t rfl (T.alloc 3 (cs := [.slice none 0 0, .slice none 0 0]) rfl) ?_))))
 rintro _ _ ⟨g3, W3, rfl, rfl, l3, b3⟩
 have a4 := a2.n l3
 refine Lw.u (T.sta (vs := [.slice none 0 0, .slice none 0 0]) b3 rfl rfl (oc_cons rfl (oc_cons rfl oc_nil)) rfl rfl) ?_
 rintro _ _ ⟨W6, rfl, l6, b6⟩
 have a7 := a4.t l6 rfl
 refine Lw.nil (Cw.seq (Cw.seq (Cw.region (Lw.g (vI 0) rfl (Lw.nil (Cw.block ?_))))))
 obtain ⟨K20, hK20, hm⟩ := jn_e hm
 refine Cw.loop 8 32 [4, 5, 6] (fun m l w => ∃ (y9 : Int) (y12 : List Vm.Commit) (y15 : List Vm.Head) (j10 j11 v13 v16 : Value) (W19 : CW), W19.w = w ∧ Le [3, 6] W6 W19 ∧ l = [vI y9, j10, j11] ∧ Rd W19 [0] [v13] y12 ∧ Rd W19 [0] [v16] y15 ∧ Bx W19 3 g3 [v13, v16] ∧ Vm.spec_RepoPlay_l1 x0 K20 m y9 y12 y15 = some r) (x0.length + 1) ⟨0, ([] : List Commit), ([] : List Head), undef, undef, .slice none 0 0, .slice none 0 0, W6, rfl, Le.refl _ _, rfl, rdN, rdN, b6, hm⟩ ?_
 rintro m21 _ _ σ ⟨y9, y12, y15, j10, j11, v13, v16, W19, rfl, l19, rfl, r14, r17, b18, hm⟩
 obtain _ | m21 := m21
 ·cases hm
 unfold Vm.spec_RepoPlay_l1 at hm
 have a22 := a7.t l19 rfl
 refine Cw.seq ?_
 obtain ⟨K26, hK26, hm⟩ := jn_e hm
 refine Cw.join 8 15 [15] (fun l w => ∃ (y24 : Bool) (W25 : CW), W25.w = w ∧ Le [] W19 W25 ∧ l = [vB y24] ∧ K26 y24 = some r) ?_ ?_
 ·rintro _ _ σ ⟨y24, W25, rfl, l25, rfl, hm⟩
  rw [hK26] at hm
  have a27 := l25.o
  refine Cw.cond (b := y24) rfl (fun hc30 => ?_) (fun hc30 => ?_)
  ·replace hm := bt hm hc30
   refine Cw.skip ?_
   obtain ⟨K41, hK41, hm⟩ := jn_e hm
   refine Cw.join 18 32 [5, 6] (fun l w => ∃ (y33 : List Vm.Commit) (y36 : List Vm.Head) (j31 j32 v34 v37 : Value) (W40 : CW), W40.w = w ∧ Le [3, 6] W25 W40 ∧ l = [j31, j32] ∧ Rd W40 [0] [v34] y33 ∧ Rd W40 [0] [v37] y36 ∧ Bx W40 3 g3 [v34, v37] ∧ K41 y33 y36 = some r) ?_ ?_
   ·rintro _ _ σ ⟨y33, y36, j31, j32, v34, v37, W40, rfl, l40, rfl, r35, r38, b39, hm⟩
    rw [hK41] at hm
    refine Cw.region (Lw.m (vI y9) rfl (Lw.add rfl (Lw.g (vI (w64 (y9 + 1))) rfl (Lw.nil (⟨?_, m21, Nat.lt_succ_self m21, ⟨w64 (y9 + 1), y33, y36, j31, j32, v34, v37, W40, rfl, (l19.trans ((l25.sub rfl).trans l40)), rfl, r35, r38, b39, hm⟩⟩)))))
    iterate 5 (refine .u ?_)
    refine Agree.ov0 rfl ?_
    iterate 1 (refine .u ?_)
    refine Agree.ov0 rfl ?_
    iterate 3 (refine .u ?_)
    exact Agree.base
   ·refine Cw.block (Cw.seq (Cw.region (Lw.m v0_ rfl (Lw.m (vI y9) rfl ?_))))
    obtain ⟨u44, e45, hm⟩ := ob hm
    have s46 := h0.ul (a22.trans a27)
    refine Lw.r rfl (R.ix (α := Vm.Op) s46 e45 rfl rfl rfl) ?_
    obtain ⟨x47, c48, _, r49⟩ := (s46.at_ e45).cells
    obtain ⟨v50, rfl, r51⟩ := Op.split r49
    refine Lw.r rfl (R.lda c48 rfl rfl) ?_
    obtain ⟨z52, e53, hm⟩ := ob hm
    refine Lw.t rfl (T.call rfl (p67 (K := [0])  (Op.rd (K := [0]) u44.Kind u44.Branch u44.Who u44.Path u44.To u44.At u44.Text r51) e53)) ?_
    rintro _ _ ⟨W54, rfl, l54, rfl⟩
    have a55 := l54.o
    have b57 := (b18.up l25 rfl).up l54 rfl
    refine Lw.nil (Cw.cond (b := z52) rfl (fun hc58 => ?_) (fun hc58 => ?_))
    ·replace hm := bt hm hc58
     refine Cw.seq ?_
     obtain ⟨u63, e64, hm⟩ := ob hm
     obtain ⟨z73, e74, hm⟩ := ob hm
     refine Cw.par [[], [], [], [1, 2], [1, 2, 3], [0, 1, 2, 3, 4], [0, 1, 2, 3, 4, 5], [0, 1, 2, 3, 4, 5, 6], [0, 1, 2, 3, 4, 5, 6], [], [0, 1, 2, 3, 4, 5, 6, 7, 9], [0, 1, 2, 3, 4, 5, 6, 7, 8, 9, 10]] [[], [], [], [1, 2], [3], [0, 4], [5], [5, 6], [5, 6], [], [5, 7, 9], [8]] [[], [], [], [], [], [], [], [], [], [], [6], []] [[0], [1], [2], [3], [4], [5], [5, 6], [5, 7], [8], [9], [5, 9], [11]] [[], [], [], [], [0], [0], [], [], [], [6], [6], []] [0, 1, 2, 3, 4, 5, 6, 7, 8, 10, 11] [6] [fun vs W => (vs 0) = .agg [v13, v16].toArray, fun vs W => (vs 1) = v0_, fun vs W => (vs 2) = vI y9, fun vs W => (vs 3) = ptr ((slA v0_).add ((y9).toNat * Rp.sz (Vm.Op))), fun vs W => (vs 4) = .agg [vI u63.Kind, vS u63.Branch, vS u63.Who, vS u63.Path, vS u63.To, vI u63.At, (cellOf (vs 4) 6)].toArray ∧ Rd W [0] [(cellOf (vs 4) 6)] u63.Text, fun vs W => (vs 5) = .tuple [.agg [(cellOf (cellOf (vs 5) 0) 0), (cellOf (cellOf (vs 5) 0) 1)].toArray, vI z73.2].toArray ∧ Rd W [0] [(cellOf (cellOf (vs 5) 0) 0)] z73.1.Commits ∧ Rd W [0] [(cellOf (cellOf (vs 5) 0) 1)] z73.1.Heads, fun vs W => (vs 6) = .tuple [.agg [(cellOf (cellOf (vs 5) 0) 0), (cellOf (cellOf (vs 5) 0) 1)].toArray, vI z73.2].toArray, fun vs W => (vs 7) = .agg [(cellOf (cellOf (vs 5) 0) 0), (cellOf (cellOf (vs 5) 0) 1)].toArray, fun vs W => (vs 8) = vI z73.2, fun vs W => (vs 9) = ptr (bx (pg (vs 9))) ∧ Bx W 6 (pg (vs 9)) [.slice none 0 0, .slice none 0 0], fun vs W => (vs 9) = ptr (bx (pg (vs 9))) ∧ Bx W 6 (pg (vs 9)) [(cellOf (cellOf (vs 5) 0) 0), (cellOf (cellOf (vs 5) 0) 1)], fun vs W => (vs 11) = vI z73.2] [] mixed (by kernel_rfl) rfl AllF.nil ?_
     intro W89 l89
     have a90 := l89.o
     refine ⟨(Steps.cons ?_ (Steps.cons ?_ (Steps.cons ?_ (Steps.cons ?_ (Steps.cons ?_ (Steps.cons ?_ (Steps.cons ?_ (Steps.cons ?_ (Steps.cons ?_ (Steps.cons ?_ (Steps.cons ?_ (Steps.cons ?_ Steps.nil)))))))))))), (Sups.cons (fun vs vs' W W' _ hv l hd h => by (show (vs' 0) = .agg [v13, v16].toArray); rw [hv 0 (anyb rfl)]; exact h) (Sups.cons (fun vs vs' W W' _ hv l hd h => by (show (vs' 1) = v0_); rw [hv 1 (anyb rfl)]; exact h) (Sups.cons (fun vs vs' W W' _ hv l hd h => by (show (vs' 2) = vI y9); rw [hv 2 (anyb rfl)]; exact h) (Sups.cons (fun vs vs' W W' _ hv l hd h => by (show (vs' 3) = ptr ((slA v0_).add ((y9).toNat * Rp.sz (Vm.Op)))); rw [hv 3 (anyb rfl)]; exact h) (Sups.cons (fun vs vs' W W' _ hv l hd h => by (show (vs' 4) = .agg [vI u63.Kind, vS u63.Branch, vS u63.Who, vS u63.Path, vS u63.To, vI u63.At, (cellOf (vs' 4) 6)].toArray ∧ Rd W' [0] [(cellOf (vs' 4) 6)] u63.Text); rw [hv 4 (anyb rfl)]; exact ⟨h.1, h.2.up l (disj_sub hd (K := [0]) rfl)⟩) (Sups.cons (fun vs vs' W W' _ hv l hd h => by (show (vs' 5) = .tuple [.agg [(cellOf (cellOf (vs' 5) 0) 0), (cellOf (cellOf (vs' 5) 0) 1)].toArray, vI z73.2].toArray ∧ Rd W' [0] [(cellOf (cellOf (vs' 5) 0) 0)] z73.1.Commits ∧ Rd W' [0] [(cellOf (cellOf (vs' 5) 0) 1)] z73.1.Heads); rw [hv 5 (anyb rfl)]; exact ⟨h.1, h.2.1.up l (disj_sub hd (K := [0]) rfl), h.2.2.up l (disj_sub hd (K := [0]) rfl)⟩) (Sups.cons (fun vs vs' W W' _ hv l hd h => by (show (vs' 6) = .tuple [.agg [(cellOf (cellOf (vs' 5) 0) 0), (cellOf (cellOf (vs' 5) 0) 1)].toArray, vI z73.2].toArray); rw [hv 5 (anyb rfl), hv 6 (anyb rfl)]; exact h) (Sups.cons (fun vs vs' W W' _ hv l hd h => by (show (vs' 7) = .agg [(cellOf (cellOf (vs' 5) 0) 0), (cellOf (cellOf (vs' 5) 0) 1)].toArray); rw [hv 5 (anyb rfl), hv 7 (anyb rfl)]; exact h) (Sups.cons (fun vs vs' W W' _ hv l hd h => by (show (vs' 8) = vI z73.2); rw [hv 8 (anyb rfl)]; exact h) (Sups.cons (fun vs vs' W W' _ hv l hd h => by (show (vs' 9) = ptr (bx (pg (vs' 9))) ∧ Bx W' 6 (pg (vs' 9)) [.slice none 0 0, .slice none 0 0]); rw [hv 9 (anyb rfl)]; exact ⟨h.1, h.2.up l (disj_mem hd (c := 6) rfl)⟩) (Sups.cons (fun vs vs' W W' _ hv l hd h => by (show (vs' 9) = ptr (bx (pg (vs' 9))) ∧ Bx W' 6 (pg (vs' 9)) [(cellOf (cellOf (vs' 5) 0) 0), (cellOf (cellOf (vs' 5) 0) 1)]); rw [hv 5 (anyb rfl), hv 9 (anyb rfl)]; exact ⟨h.1, h.2.up l (disj_mem hd (c := 6) rfl)⟩) (Sups.cons (fun vs vs' W W' _ hv l hd h => by (show (vs' 11) = vI z73.2); rw [hv 11 (anyb rfl)]; exact h) Sups.nil)))))))))))), ?_⟩
     ·intro vs W lW hN
      obtain ⟨W93, hW93⟩ : ∃ X, X = W := ⟨W, rfl⟩
      subst hW93
      refine Tr.mono (Run.tr (R.lda (cs := [v13, v16]) ((b57.up l89 rfl).up lW rfl).cells rfl rfl)) ?_
      rintro _ _ ⟨hu, rfl⟩
      obtain rfl := hu.symm
      exact ⟨W93, rfl, Le.refl _ _, (show (.agg [v13, v16].toArray : Value) = .agg [v13, v16].toArray from rfl)⟩
     ·intro vs W lW hN
      obtain ⟨W97, hW97⟩ : ∃ X, X = W := ⟨W, rfl⟩
      subst hW97
      refine Tr.mono (Run.tr (R.mv (v := v0_) rfl)) ?_
      rintro _ _ ⟨hu, rfl⟩
      obtain rfl := hu.symm
      exact ⟨W97, rfl, Le.refl _ _, (show (v0_ : Value) = v0_ from rfl)⟩
     ·intro vs W lW hN
      obtain ⟨W101, hW101⟩ : ∃ X, X = W := ⟨W, rfl⟩
      subst hW101
      refine Tr.mono (Run.tr (R.mv (v := vI y9) rfl)) ?_
      rintro _ _ ⟨hu, rfl⟩
      obtain rfl := hu.symm
      exact ⟨W101, rfl, Le.refl _ _, (show (vI y9 : Value) = vI y9 from rfl)⟩
     ·intro vs W lW hN
      obtain ⟨W105, hW105⟩ : ∃ X, X = W := ⟨W, rfl⟩
      subst hW105
      have a106 := (((a22.trans a27).trans a55).trans a90).t lW rfl
      have e1_ : vs 1 = v0_ := (hN 1 (anyb rfl))
      obtain ⟨vs, rfl⟩ := up_eq e1_
      have e2_ : vs 2 = vI y9 := (hN 2 (anyb rfl))
      obtain ⟨vs, rfl⟩ := up_eq e2_
      refine Tr.mono (Run.tr (R.ix (α := Vm.Op) (h0.ul a106) e64 rfl rfl rfl)) ?_
      rintro _ _ ⟨hu, rfl⟩
      obtain rfl := hu.symm
      exact ⟨W105, rfl, Le.refl _ _, (show (ptr ((slA v0_).add ((y9).toNat * Rp.sz (Vm.Op))) : Value) = ptr ((slA v0_).add ((y9).toNat * Rp.sz (Vm.Op))) from rfl)⟩
     ·intro vs W lW hN
      obtain ⟨W110, hW110⟩ : ∃ X, X = W := ⟨W, rfl⟩
      subst hW110
      have a111 := (((a22.trans a27).trans a55).trans a90).t lW rfl
      have e3_ : vs 3 = ptr ((slA v0_).add ((y9).toNat * Rp.sz (Vm.Op))) := (hN 3 (anyb rfl))
      obtain ⟨vs, rfl⟩ := up_eq e3_
      obtain ⟨x115, c116, _, r117⟩ := ((h0.ul a111).at_ e64).cells
      obtain ⟨v118, rfl, r119⟩ := Op.split r117
      refine Tr.mono (Run.tr (R.lda c116 rfl rfl)) ?_
      rintro _ _ ⟨hu, rfl⟩
      obtain rfl := hu.symm
      exact ⟨W110, rfl, Le.refl _ _, (show (.agg [vI u63.Kind, vS u63.Branch, vS u63.Who, vS u63.Path, vS u63.To, vI u63.At, v118].toArray : Value) = .agg [vI u63.Kind, vS u63.Branch, vS u63.Who, vS u63.Path, vS u63.To, vI u63.At, v118].toArray ∧ Rd W110 [0] [v118] u63.Text from ⟨rfl, r119⟩)⟩
     ·intro vs W lW hN
      obtain ⟨W120, hW120⟩ : ∃ X, X = W := ⟨W, rfl⟩
      subst hW120
      have a121 := ((a27.trans a55).trans a90).t lW rfl
      have e0_ : vs 0 = .agg [v13, v16].toArray := (hN 0 (anyb rfl))
      obtain ⟨vs, rfl⟩ := up_eq e0_
      obtain ⟨pc4_6, e4_⟩ : ∃ pc4_6 : Value, vs 4 = .agg [vI u63.Kind, vS u63.Branch, vS u63.Who, vS u63.Path, vS u63.To, vI u63.At, pc4_6].toArray := ⟨_, (hN 4 (anyb rfl)).1⟩
      obtain ⟨vs, rfl⟩ := up_eq e4_
      have o124 : Rd W120 [0] [pc4_6] u63.Text := (hN 4 (anyb rfl)).2
      refine Tr.mono (T.call rfl (p68 (K := [0])  (x0 := (Vm.Repo.mk y12 y15)) (Repo.rd (K := [0]) y12 y15 (r14.ul a121) (r17.ul a121)) (Op.rd (K := [0]) u63.Kind u63.Branch u63.Who u63.Path u63.To u63.At u63.Text o124) e74)) ?_
      rintro _ _ ⟨W127, rfl, l127, ⟨v0_0_127, v0_1_127, rfl, f127_0, f127_1⟩⟩
      have s128 := f127_0.sub (M := [0]) rfl
      have s129 := f127_1.sub (M := [0]) rfl
      exact ⟨W127, rfl, l127, (show (.tuple [.agg [v0_0_127, v0_1_127].toArray, vI z73.2].toArray : Value) = .tuple [.agg [v0_0_127, v0_1_127].toArray, vI z73.2].toArray ∧ Rd W127 [0] [v0_0_127] z73.1.Commits ∧ Rd W127 [0] [v0_1_127] z73.1.Heads from ⟨rfl, s128, s129⟩)⟩
     ·intro vs W lW hN
      obtain ⟨W133, hW133⟩ : ∃ X, X = W := ⟨W, rfl⟩
      subst hW133
      obtain ⟨pc5_0n0, pc5_0n1, e5_⟩ : ∃ pc5_0n0 pc5_0n1 : Value, vs 5 = .tuple [.agg [pc5_0n0, pc5_0n1].toArray, vI z73.2].toArray := ⟨_, _, (hN 5 (anyb rfl)).1⟩
      obtain ⟨vs, rfl⟩ := up_eq e5_
      have o137 : Rd W133 [0] [pc5_0n0] z73.1.Commits := (hN 5 (anyb rfl)).2.1
      have o138 : Rd W133 [0] [pc5_0n1] z73.1.Heads := (hN 5 (anyb rfl)).2.2
      refine Tr.mono (Run.tr (R.mv (v := .tuple [.agg [pc5_0n0, pc5_0n1].toArray, vI z73.2].toArray) rfl)) ?_
      rintro _ _ ⟨hu, rfl⟩
      obtain rfl := hu.symm
      exact ⟨W133, rfl, Le.refl _ _, (show (.tuple [.agg [pc5_0n0, pc5_0n1].toArray, vI z73.2].toArray : Value) = .tuple [.agg [pc5_0n0, pc5_0n1].toArray, vI z73.2].toArray from rfl)⟩
     ·intro vs W lW hN
      obtain ⟨W139, hW139⟩ : ∃ X, X = W := ⟨W, rfl⟩
      subst hW139
      obtain ⟨pc5_0n0, pc5_0n1, e5_⟩ : ∃ pc5_0n0 pc5_0n1 : Value, vs 5 = .tuple [.agg [pc5_0n0, pc5_0n1].toArray, vI z73.2].toArray := ⟨_, _, (hN 5 (anyb rfl)).1⟩
      obtain ⟨vs, rfl⟩ := up_eq e5_
      have o143 : Rd W139 [0] [pc5_0n0] z73.1.Commits := (hN 5 (anyb rfl)).2.1
      have o144 : Rd W139 [0] [pc5_0n1] z73.1.Heads := (hN 5 (anyb rfl)).2.2
      have e6_ : vs 6 = .tuple [.agg [pc5_0n0, pc5_0n1].toArray, vI z73.2].toArray := (hN 6 (anyb rfl))
      obtain ⟨vs, rfl⟩ := up_eq e6_
      refine Tr.mono (Run.tr (R.ext (vs := [.agg [pc5_0n0, pc5_0n1].toArray, vI z73.2]) (v := .agg [pc5_0n0, pc5_0n1].toArray) rfl rfl)) ?_
      rintro _ _ ⟨hu, rfl⟩
      obtain rfl := hu.symm
      exact ⟨W139, rfl, Le.refl _ _, (show (.agg [pc5_0n0, pc5_0n1].toArray : Value) = .agg [pc5_0n0, pc5_0n1].toArray from rfl)⟩
     ·intro vs W lW hN
      obtain ⟨W145, hW145⟩ : ∃ X, X = W := ⟨W, rfl⟩
      subst hW145
      obtain ⟨pc5_0n0, pc5_0n1, e5_⟩ : ∃ pc5_0n0 pc5_0n1 : Value, vs 5 = .tuple [.agg [pc5_0n0, pc5_0n1].toArray, vI z73.2].toArray := ⟨_, _, (hN 5 (anyb rfl)).1⟩
      obtain ⟨vs, rfl⟩ := up_eq e5_
      have o149 : Rd W145 [0] [pc5_0n0] z73.1.Commits := (hN 5 (anyb rfl)).2.1
      have o150 : Rd W145 [0] [pc5_0n1] z73.1.Heads := (hN 5 (anyb rfl)).2.2
      have e6_ : vs 6 = .tuple [.agg [pc5_0n0, pc5_0n1].toArray, vI z73.2].toArray := (hN 6 (anyb rfl))
      obtain ⟨vs, rfl⟩ := up_eq e6_
      refine Tr.mono (Run.tr (R.ext (vs := [.agg [pc5_0n0, pc5_0n1].toArray, vI z73.2]) (v := vI z73.2) rfl rfl)) ?_
      rintro _ _ ⟨hu, rfl⟩
      obtain rfl := hu.symm
      exact ⟨W145, rfl, Le.refl _ _, (show (vI z73.2 : Value) = vI z73.2 from rfl)⟩
     ·intro vs W lW hN
      obtain ⟨W151, hW151⟩ : ∃ X, X = W := ⟨W, rfl⟩
      subst hW151
      refine Tr.mono (T.alloc 6 (cs := [.slice none 0 0, .slice none 0 0]) rfl) ?_
      rintro _ _ ⟨g155, W155, rfl, rfl, l155, b155⟩
      exact ⟨W155, rfl, l155, (show (ptr (bx g155) : Value) = ptr (bx g155) ∧ Bx W155 6 g155 [.slice none 0 0, .slice none 0 0] from ⟨rfl, b155⟩)⟩
     ·intro vs W lW hN
      obtain ⟨W159, hW159⟩ : ∃ X, X = W := ⟨W, rfl⟩
      subst hW159
      obtain ⟨pc5_0n0, pc5_0n1, e5_⟩ : ∃ pc5_0n0 pc5_0n1 : Value, vs 5 = .tuple [.agg [pc5_0n0, pc5_0n1].toArray, vI z73.2].toArray := ⟨_, _, (hN 5 (anyb rfl)).1⟩
      obtain ⟨vs, rfl⟩ := up_eq e5_
      have o163 : Rd W159 [0] [pc5_0n0] z73.1.Commits := (hN 5 (anyb rfl)).2.1
      have o164 : Rd W159 [0] [pc5_0n1] z73.1.Heads := (hN 5 (anyb rfl)).2.2
      have e7_ : vs 7 = .agg [pc5_0n0, pc5_0n1].toArray := (hN 7 (anyb rfl))
      obtain ⟨vs, rfl⟩ := up_eq e7_
      obtain ⟨pg9, e9_⟩ : ∃ pg9, vs 9 = ptr (bx pg9) := ⟨_, ((hN 9 (anyb rfl))).1⟩
      obtain ⟨vs, rfl⟩ := up_eq e9_
      have o165 : Bx W159 6 pg9 [.slice none 0 0, .slice none 0 0] := (hN 9 (anyb rfl)).2
      refine Tr.mono (T.sta (vs := [pc5_0n0, pc5_0n1]) o165 rfl rfl (oc_cons o163.oc (oc_cons o164.oc oc_nil)) rfl rfl) ?_
      rintro _ _ ⟨W166, rfl, l166, b166⟩
      exact ⟨W166, rfl, l166, (show (ptr (bx pg9)) = ptr (bx pg9) ∧ Bx W166 6 pg9 [pc5_0n0, pc5_0n1] from ⟨rfl, b166⟩)⟩
     ·intro vs W lW hN
      obtain ⟨W170, hW170⟩ : ∃ X, X = W := ⟨W, rfl⟩
      subst hW170
      have e8_ : vs 8 = vI z73.2 := (hN 8 (anyb rfl))
      obtain ⟨vs, rfl⟩ := up_eq e8_
      refine Tr.mono (Run.tr (R.as (v := vI z73.2) rfl)) ?_
      rintro _ _ ⟨hu, rfl⟩
      obtain rfl := hu.symm
      exact ⟨W170, rfl, Le.refl _ _, (show (vI z73.2 : Value) = vI z73.2 from rfl)⟩
     ·intro vs W lW hN
      obtain ⟨W174, hW174⟩ : ∃ X, X = W := ⟨W, rfl⟩
      subst hW174
      obtain ⟨l174, hl174⟩ : ∃ x, x = lW := ⟨lW, rfl⟩
      have e0_ : vs 0 = .agg [v13, v16].toArray := (hN 0 (anyb rfl))
      obtain ⟨vs, rfl⟩ := up_eq e0_
      have e1_ : vs 1 = v0_ := (hN 1 (anyb rfl))
      obtain ⟨vs, rfl⟩ := up_eq e1_
      have e2_ : vs 2 = vI y9 := (hN 2 (anyb rfl))
      obtain ⟨vs, rfl⟩ := up_eq e2_
      have e3_ : vs 3 = ptr ((slA v0_).add ((y9).toNat * Rp.sz (Vm.Op))) := (hN 3 (anyb rfl))
      obtain ⟨vs, rfl⟩ := up_eq e3_
      obtain ⟨pc4_6, e4_⟩ : ∃ pc4_6 : Value, vs 4 = .agg [vI u63.Kind, vS u63.Branch, vS u63.Who, vS u63.Path, vS u63.To, vI u63.At, pc4_6].toArray := ⟨_, (hN 4 (anyb rfl)).1⟩
      obtain ⟨vs, rfl⟩ := up_eq e4_
      have o178 : Rd W174 [0] [pc4_6] u63.Text := (hN 4 (anyb rfl)).2
      obtain ⟨pc5_0n0, pc5_0n1, e5_⟩ : ∃ pc5_0n0 pc5_0n1 : Value, vs 5 = .tuple [.agg [pc5_0n0, pc5_0n1].toArray, vI z73.2].toArray := ⟨_, _, (hN 5 (anyb rfl)).1⟩
      obtain ⟨vs, rfl⟩ := up_eq e5_
      have o179 : Rd W174 [0] [pc5_0n0] z73.1.Commits := (hN 5 (anyb rfl)).2.1
      have o180 : Rd W174 [0] [pc5_0n1] z73.1.Heads := (hN 5 (anyb rfl)).2.2
      have e6_ : vs 6 = .tuple [.agg [pc5_0n0, pc5_0n1].toArray, vI z73.2].toArray := (hN 6 (anyb rfl))
      obtain ⟨vs, rfl⟩ := up_eq e6_
      have e7_ : vs 7 = .agg [pc5_0n0, pc5_0n1].toArray := (hN 7 (anyb rfl))
      obtain ⟨vs, rfl⟩ := up_eq e7_
      have e8_ : vs 8 = vI z73.2 := (hN 8 (anyb rfl))
      obtain ⟨vs, rfl⟩ := up_eq e8_
      obtain ⟨pg9, e9_⟩ : ∃ pg9, vs 9 = ptr (bx pg9) := ⟨_, (hN 10 (anyb rfl)).1⟩
      obtain ⟨vs, rfl⟩ := up_eq e9_
      have o181 : Bx W174 6 pg9 [pc5_0n0, pc5_0n1] := (hN 10 (anyb rfl)).2
      have e11_ : vs 11 = vI z73.2 := (hN 11 (anyb rfl))
      obtain ⟨vs, rfl⟩ := up_eq e11_
      refine Cw.region (Lw.r rfl (R.lda (cs := [pc5_0n0, pc5_0n1]) o181.cells rfl rfl) (Lw.u (T.sta (vs := [pc5_0n0, pc5_0n1]) ((b57.up l89 rfl).up lW rfl) rfl rfl (oc_cons o179.oc (oc_cons o180.oc oc_nil)) rfl rfl) ?_))
      rintro _ _ ⟨W182, rfl, l182, b182⟩
      have a183 := l182.s rfl
      refine Lw.nil (⟨?_, ⟨z73.1.Commits, z73.1.Heads, ptr (bx pg9), vI z73.2, pc5_0n0, pc5_0n1, W182, rfl, ((l54.sub rfl).trans ((l89.sub rfl).trans ((l174.sub rfl).trans (l182.sub rfl)))), rfl, (o179.ul a183), (o180.ul a183), b182, hm⟩⟩)
      iterate 17 (refine .u ?_)
      exact Agree.refl _
    ·replace hm := bf hm hc58
     refine Cw.skip (⟨?_, ⟨y12, y15, j10, j11, v13, v16, W54, rfl, (l54.sub rfl), rfl, (r14.ul (a27.trans a55)), (r17.ul (a27.trans a55)), b57, hm⟩⟩)
     iterate 5 (refine .u ?_)
     exact Agree.refl _
  ·replace hm := bf hm hc30
   refine Cw.exit ?_
   rw [hK20] at hm
   refine Cw.seq (Cw.region (Lw.r rfl (R.lda (cs := [v13, v16]) (b18.up l25 rfl).cells rfl rfl) (Lw.u (T.sta (vs := [v13, v16]) ((((b1.up l3 rfl).up l6 rfl).up l19 rfl).up l25 rfl) rfl rfl (oc_cons r14.oc (oc_cons r17.oc oc_nil)) rfl rfl) ?_)))
   rintro _ _ ⟨W190, rfl, l190, b190⟩
   have a191 := l190.s rfl
   refine Lw.nil ?_
   cases hm
   exact Cw.ret (retA1 rfl b190 (Res.mk ((a22.trans a27).trans a191) ⟨v13, v16, rfl, (r14.ul (a27.trans a191)), (r17.ul (a27.trans a191))⟩))
 ·refine Cw.region (Lw.m (vI y9) rfl (Lw.m v0_ rfl (Lw.ln x0 (h0.ul a22) rfl (Lw.lt rfl (Lw.m (vB (decide ((y9 : Int) < ((x0.length : Int) : Int)))) rfl (bsplit (decide ((y9 : Int) < ((x0.length : Int) : Int))) (fun hc196 => ?_) (fun hc196 => ?_)))))))
  ·replace hm := bt hm hc196
   refine Lw.wa hc196 rfl (Lw.m (vI y9) rfl (Lw.wa hc196 rfl (Lw.lt rfl (Lw.p hc196 (vB (decide ((y9 : Int) < (30 : Int)))) rfl (Lw.nil (⟨?_, ⟨decide ((y9 : Int) < (30 : Int)), W19, rfl, Le.refl _ _, rfl, hm⟩⟩))))))
   iterate 8 (refine .u ?_)
   exact Agree.refl _
  ·replace hm := bf hm hc196
   refine Lw.ps hc196 rfl (Lw.ps hc196 rfl (Lw.p hc196 (vB false) rfl (Lw.nil (⟨?_, ⟨false, W19, rfl, Le.refl _ _, rfl, hm⟩⟩))))
   iterate 8 (refine .u ?_)
   exact Agree.refl _

theorem p59 {W : CW} {K : List Nat} {x0 : List Vm.Op} {v0_ : Value} {r : Vm.Repo} (h0 : Rd W K [v0_] x0) (hm : Vm.spec_RepoPlay x0 = some r) : CallR Tryz.prog 59 [v0_].toArray W.w (Res W [] fun W' v => ∃ (u0_0 : Value) (u0_1 : Value), v = .agg [u0_0, u0_1].toArray ∧ Rd W' (0 :: K) [u0_0] r.Commits ∧ Rd W' (0 :: K) [u0_1] r.Heads) :=
 (c59 (V := W.view K []) (h0.view _) hm).ad (fk 0) fun _ _ ⟨u0_0, u0_1, e, f0, f1⟩ => ⟨u0_0, u0_1, e, f0.back rfl, f1.back rfl⟩

theorem c47 {V : CW} {x0 : Vm.l30Rd} {g0_ : Nat} {v0_0_ : Value} {r : Vm.Repo × Int} (hB0 : Bx V 2 g0_ [v0_0_, vI x0.p]) (h0_0 : Rd V [0] [v0_0_] x0.b) (hm : Vm.spec_l30Repo x0 = some r) : CallR Tryz.prog 47 [ptr (bx g0_)].toArray V.w (Res V LL fun Wf v => ∃ (u0_0 : Value) (u0_1 : Value), v = .agg [u0_0, u0_1].toArray ∧ OwS Wf [31] [] [u0_0] r.1.Commits ∧ OwS Wf [32] [] [u0_1] r.1.Heads ∧ Bx Wf 2 g0_ [v0_0_, vI r.2]) := by
 unfold Vm.spec_l30Repo at hm
 obtain ⟨W0, hW0⟩ : ∃ W, W = V := ⟨V, rfl⟩
 subst hW0
 refine CallR.of Tryz.func47 rfl rfl rfl rfl (Cw.seq (Cw.region (Lw.t rfl (T.alloc 3 (cs := [.slice none 0 0, .slice none 0 0]) rfl) ?_)))
 rintro _ _ ⟨g1, W1, rfl, rfl, l1, b1⟩
 have a2 := l1.o
 have b3 := hB0.up l1 rfl
 refine Lw.nil (Cw.seq (Cw.region (Lw.m (ptr (bx g0_)) rfl ?_)))
 obtain ⟨z5, e6, hm⟩ := ob hm
 refine Lw.t rfl (T.call rfl (p60 (K := [0]) (k0 := 4) (c0 := 2) (x0 := x0) b3 (h0_0.ul a2) rfl e6)) ?_
 rintro v0_7 _ ⟨W7, rfl, l7, ⟨_, rfl, f7_0, f7_1⟩⟩
 have a8 := a2.t l7 rfl
 obtain ⟨z10, e11, hm⟩ := ob hm
 refine Lw.t rfl (T.call rfl (p59 (K := [4])  f7_0.rd e11)) ?_
 rintro _ _ ⟨W12, rfl, l12, ⟨v0_0_12, v0_1_12, rfl, f12_0, f12_1⟩⟩
 have s13 := f12_0.sub (M := [0, 4]) rfl
 have s14 := f12_1.sub (M := [0, 4]) rfl
 have a15 := a8.n l12
 obtain ⟨z19, e20, hm⟩ := ob hm
 refine Lw.t rfl (T.call rfl (p58 (K := [0, 4]) (k0 := 5) (k1 := 6) (Repo.rd (K := [0, 4]) z10.Commits z10.Heads s13 s14) e20)) ?_
 rintro _ _ ⟨W21, rfl, l21, ⟨v0_0_21, v0_1_21, rfl, f21_0, f21_1⟩⟩
 have a22 := a15.n l21
 refine Lw.u (T.sta (vs := [v0_0_21, v0_1_21]) (((b1.up l7 rfl).up l12 rfl).up l21 rfl) rfl rfl (oc_cons f21_0.oc (oc_cons f21_1.oc oc_nil)) rfl rfl) ?_
 rintro _ _ ⟨W26, rfl, l26, b26⟩
 have a27 := a22.t l26 rfl
 refine Lw.nil ?_
 obtain ⟨W32, ew32, l32, o32⟩ := (f21_0.up l26 rfl).dyeO 31
 have a33 := a27.t l32 rfl
 obtain ⟨W38, ew38, l38, o38⟩ := ((f21_1.up l26 rfl).up l32 rfl).dyeO 32
 have a39 := a33.t l38 rfl
 cases hm
 rw [← ew38.trans (ew32)]
 exact Cw.ret (retA1 rfl ((b26.up l32 rfl).up l38 rfl) (Res.mk a39 ⟨v0_0_21, v0_1_21, rfl, (o32.up l38 rfl).s, o38.s, (((((f7_1.up l12 rfl).up l21 rfl).up l26 rfl).up l32 rfl).up l38 rfl)⟩))

theorem p47 {W : CW} {K : List Nat} {x0 : Vm.l30Rd} {g0_ : Nat} {v0_0_ : Value} {k0 : Nat} {k1 : Nat} {c0 : Nat} {r : Vm.Repo × Int} (hB0 : Bx W c0 g0_ [v0_0_, vI x0.p]) (h0_0 : Rd W K [v0_0_] x0.b) (hJ : okJ K [c0] = true) (hm : Vm.spec_l30Repo x0 = some r) : CallR Tryz.prog 47 [ptr (bx g0_)].toArray W.w (Res W [c0] fun W' v => ∃ (u0_0 : Value) (u0_1 : Value), v = .agg [u0_0, u0_1].toArray ∧ Ow W' k0 [] [u0_0] r.1.Commits ∧ Ow W' k1 [] [u0_1] r.1.Heads ∧ Bx W' c0 g0_ [v0_0_, vI r.2]) :=
 CallR.adJ (J := [c0]) (fun c => bif Nat.beq c 0 then 0 else bif Nat.beq c 2 then c0 else bif Nat.beq c 31 then k0 else bif Nat.beq c 32 then k1 else 0) (c47 (V := W.view K [c0]) (hB0.viewJ 0 hJ) (h0_0.view _) hm) fun _ _ ⟨u0_0, u0_1, e, f0, f1, f2⟩ => ⟨u0_0, u0_1, e, f0.one1.backN rfl, f1.one1.backN rfl, Bx.backJ 0 f2 rfl⟩

theorem c25 {V : CW} {x0 : Vm.l30Rd} {g0_ : Nat} {v0_0_ : Value} {r : Vm.Repo × Int} (hB0 : Bx V 2 g0_ [v0_0_, vI x0.p]) (h0_0 : Rd V [0] [v0_0_] x0.b) (hm : Vm.spec_l30AnyRepo x0 = some r) : CallR Tryz.prog 25 [ptr (bx g0_)].toArray V.w (Res V LL fun Wf v => ∃ (u0_0 : Value) (u0_1 : Value), v = .agg [u0_0, u0_1].toArray ∧ OwS Wf [31] [] [u0_0] r.1.Commits ∧ OwS Wf [32] [] [u0_1] r.1.Heads ∧ Bx Wf 2 g0_ [v0_0_, vI r.2]) := by
 unfold Vm.spec_l30AnyRepo at hm
 obtain ⟨W0, hW0⟩ : ∃ W, W = V := ⟨V, rfl⟩
 subst hW0
 refine CallR.of Tryz.func25 rfl rfl rfl rfl (Cw.seq (Cw.region (Lw.t rfl (T.alloc 3 (cs := [.slice none 0 0, .slice none 0 0]) rfl) ?_)))
 rintro _ _ ⟨g1, W1, rfl, rfl, l1, b1⟩
 have a2 := l1.o
 have b3 := hB0.up l1 rfl
 refine Lw.nil (Cw.seq (Cw.region (Lw.m (ptr (bx g0_)) rfl ?_)))
 obtain ⟨z5, e6, hm⟩ := ob hm
 refine Lw.t rfl (T.call rfl (p47 (K := [0]) (k0 := 4) (k1 := 5) (c0 := 2) (x0 := x0) b3 (h0_0.ul a2) rfl e6)) ?_
 rintro _ _ ⟨W7, rfl, l7, ⟨v0_0_7, v0_1_7, rfl, f7_0, f7_1, f7_2⟩⟩
 have a8 := a2.t l7 rfl
 refine Lw.t rfl (T.alloc 6 (cs := [.slice none 0 0, .slice none 0 0]) rfl) ?_
 rintro _ _ ⟨g10, W10, rfl, rfl, l10, b10⟩
 have a11 := a8.n l10
 refine Lw.u (T.sta (vs := [v0_0_7, v0_1_7]) b10 rfl rfl (oc_cons (f7_0.up l10 rfl).oc (oc_cons (f7_1.up l10 rfl).oc oc_nil)) rfl rfl) ?_
 rintro _ _ ⟨W16, rfl, l16, b16⟩
 have a17 := a11.t l16 rfl
 have o18 := (f7_0.up l10 rfl).up l16 rfl
 have o19 := (f7_1.up l10 rfl).up l16 rfl
 have b20 := (f7_2.up l10 rfl).up l16 rfl
 refine Lw.nil ?_
 obtain ⟨K33, hK33, hm⟩ := jn_e hm
 refine Cw.join 7 44 [4] (fun l w => ∃ (y23 : Int) (y25 : List Vm.Commit) (y28 : List Vm.Head) (j22 v26 v29 : Value) (W32 : CW), W32.w = w ∧ Le [2, 4, 5, 6, 7] W16 W32 ∧ l = [j22] ∧ Bx W32 2 g0_ [v0_0_, vI y23] ∧ Ow W32 4 [] [v26] y25 ∧ Ow W32 5 [] [v29] y28 ∧ Bx W32 6 g10 [v26, v29] ∧ K33 y23 y25 y28 = some r) ?_ ?_
 ·rintro _ _ σ ⟨y23, y25, y28, j22, v26, v29, W32, rfl, l32, rfl, b24, o27, o30, b31, hm⟩
  rw [hK33] at hm
  have a34 := a17.t l32 rfl
  refine Cw.seq (Cw.region (Lw.r rfl (R.lda (cs := [v26, v29]) b31.cells rfl rfl) (Lw.u (T.sta (vs := [v26, v29]) ((((b1.up l7 rfl).up l10 rfl).up l16 rfl).up l32 rfl) rfl rfl (oc_cons o27.oc (oc_cons o30.oc oc_nil)) rfl rfl) ?_)))
  rintro _ _ ⟨W36, rfl, l36, b36⟩
  have a37 := a34.t l36 rfl
  refine Lw.nil ?_
  obtain ⟨W42, ew42, l42, o42⟩ := (o27.up l36 rfl).dyeO 31
  have a43 := a37.t l42 rfl
  obtain ⟨W48, ew48, l48, o48⟩ := ((o30.up l36 rfl).up l42 rfl).dyeO 32
  have a49 := a43.t l48 rfl
  cases hm
  rw [← ew48.trans (ew42)]
  exact Cw.ret (retA1 rfl ((b36.up l42 rfl).up l48 rfl) (Res.mk a49 ⟨v26, v29, rfl, (o42.up l48 rfl).s, o48.s, (((b24.up l36 rfl).up l42 rfl).up l48 rfl)⟩))
 ·refine Cw.seq (Cw.region (Lw.fa rfl (Lw.r rfl (R.ld (v := v0_0_7) rfl rfl (b16.cell rfl)) (Lw.ln z5.1.Commits o18.rd rfl (Lw.gt rfl (Lw.nil (Cw.cond (b := decide ((0 : Int) < ((z5.1.Commits.length : Int) : Int))) rfl (fun hc54 => ?_) (fun hc54 => ?_))))))))
  ·replace hm := bt hm hc54
   refine Cw.seq (Cw.region (Lw.m (ptr (bx g0_)) rfl (Lw.fa rfl (Lw.r rfl (R.ld (v := v0_0_7) rfl rfl (b16.cell rfl)) (Lw.ln z5.1.Commits o18.rd rfl ?_)))))
   obtain ⟨z56, e57, hm⟩ := ob hm
   refine Lw.t rfl (T.call rfl (p48 (K := [0])  (c0 := 2) (x0 := (Vm.l30Rd.mk x0.b z5.2)) b20 (h0_0.ul a17) rfl e57)) ?_
   rintro _ _ ⟨W58, rfl, l58, ⟨rfl, f58_0⟩⟩
   have a59 := a17.t l58 rfl
   refine Lw.g (vI z56.1) rfl (Lw.nil (Cw.seq (Cw.region (Lw.m (ptr (bx g0_)) rfl ?_))))
   obtain ⟨z65, e66, hm⟩ := ob hm
   refine Lw.t rfl (T.call rfl (p48 (K := [0])  (c0 := 2) (x0 := (Vm.l30Rd.mk x0.b z56.2)) f58_0 (h0_0.ul a59) rfl e66)) ?_
   rintro _ _ ⟨W67, rfl, l67, ⟨rfl, f67_0⟩⟩
   have o69 := (o18.up l58 rfl).up l67 rfl
   have o70 := (o19.up l58 rfl).up l67 rfl
   have b72 := (b16.up l58 rfl).up l67 rfl
   refine Lw.nil (Cw.block (Cw.seq (Cw.region (Lw.eq rfl (Lw.g (vB ((z65.1 : Int) == (0 : Int))) rfl (Lw.nil (Cw.cond (b := ((z65.1 : Int) == (0 : Int))) rfl (fun hc73 => ?_) (fun hc73 => ?_))))))))
   ·replace hm := bt hm hc73
    refine Cw.region (Lw.fa rfl (Lw.r rfl (R.ld (v := v0_0_7) rfl rfl (b72.cell rfl)) (Lw.m (vI z56.1) rfl (Lw.m (vI z56.1) rfl (Lw.t rfl (T.bsS (α := Int) (xs := [z56.1]) 7 [] (W := W67) [vI z56.1] (Each.cons ((rdI _)) Each.nil) rfl) ?_)))))
    rintro v74 _ ⟨W74, rfl, l74, o74⟩
    obtain ⟨u81, e82, hm⟩ := ob hm
    refine Lw.r rfl (R.ix (α := Commit) (o69.up l74 rfl).rd e82 rfl rfl rfl) (Lw.fa rfl ?_)
    obtain ⟨q84, e85, hm⟩ := ob hm
    refine Lw.u (T.stH (α := Commit) (β := List Int) (J := [7]) (Ow.hole (α := Commit) (β := List Int) (jf := 0) (o69.up l74 rfl) e82) o74.s e85 rfl rfl rfl rfl) ?_
    rintro _ _ ⟨W83, rfl, l83, o83⟩
    refine Lw.nil (⟨?_, ⟨z65.2, q84, z5.1.Heads, vI z56.1, v0_0_7, v0_1_7, W83, rfl, ((l58.sub rfl).trans ((l67.sub rfl).trans ((l74.sub rfl).trans (l83.sub rfl)))), rfl, ((f67_0.up l74 rfl).up l83 rfl), o83, ((o70.up l74 rfl).up l83 rfl), ((b72.up l74 rfl).up l83 rfl), hm⟩⟩)
    iterate 21 (refine .u ?_)
    exact Agree.refl _
   ·replace hm := bf hm hc73
    refine Cw.seq (Cw.region (Lw.eq rfl (Lw.g (vB ((z65.1 : Int) == (1 : Int))) rfl (Lw.nil (Cw.cond (b := ((z65.1 : Int) == (1 : Int))) rfl (fun hc91 => ?_) (fun hc91 => ?_))))))
    ·replace hm := bt hm hc91
     refine Cw.region (Lw.fa rfl (Lw.r rfl (R.ld (v := v0_0_7) rfl rfl (b72.cell rfl)) (Lw.m (vI z56.1) rfl ?_)))
     obtain ⟨u92, e93, hm⟩ := ob hm
     refine Lw.r rfl (R.ix (α := Commit) o69.rd e93 rfl rfl rfl) (Lw.fa rfl ?_)
     obtain ⟨q95, e96, hm⟩ := ob hm
     refine Lw.u (T.stH (α := Commit) (β := Str) (J := []) (Ow.hole (α := Commit) (β := Str) (jf := 1) o69 e93) (OwS.atm (K := []) (rdS _)) e96 rfl rfl rfl rfl) ?_
     rintro _ _ ⟨W94, rfl, l94, o94⟩
     refine Lw.nil (⟨?_, ⟨z65.2, q95, z5.1.Heads, vI z56.1, v0_0_7, v0_1_7, W94, rfl, ((l58.sub rfl).trans ((l67.sub rfl).trans (l94.sub rfl))), rfl, (f67_0.up l94 rfl), o94, (o70.up l94 rfl), (b72.up l94 rfl), hm⟩⟩)
     iterate 21 (refine .u ?_)
     exact Agree.refl _
    ·replace hm := bf hm hc91
     refine Cw.seq (Cw.region (Lw.eq rfl (Lw.g (vB ((z65.1 : Int) == (2 : Int))) rfl (Lw.nil (Cw.cond (b := ((z65.1 : Int) == (2 : Int))) rfl (fun hc102 => ?_) (fun hc102 => ?_))))))
     ·replace hm := bt hm hc102
      refine Cw.draw [5] [(0, 0), (1, 1), (2, 0), (3, 1), (4, 0), (5, 2), (6, 2), (7, 2), (8, 0), (9, 3)] mixed (by kernel_rfl) fun W103 l103 => ?_
      have o106 := o70.up l103 rfl
      have b109 := b72.up l103 rfl
      refine Mw.p rfl rfl (fun _ => R.fa rfl) (Mw.q rfl rfl (fun _ c => R.ld (v := v0_1_7) rfl rfl (b109.clc rfl rfl c)) (Mw.p rfl rfl (fun _ => R.fa rfl) (Mw.q rfl rfl (fun _ c => R.ld (v := v0_1_7) rfl rfl (b109.clc rfl rfl c)) ?_)))
      obtain ⟨u110, e111, hm⟩ := ob hm
      refine Mw.p rfl rfl (fun _ => R.ix (α := Head) o106.rd e111 rfl rfl rfl) ?_
      obtain ⟨x112, c113, _, r114⟩ := (o106.rd.at_ e111).cells
      obtain rfl := Head.split r114
      refine Mw.t rfl rfl (Run.tr (R.lda c113 rfl rfl)) ?_
      rintro _ _ ⟨hu, rfl⟩
      obtain rfl := hu.symm
      refine ⟨⟨_, rfl, (Le.refl _ _)⟩, ?_⟩
      refine Mw.t rfl rfl (T.bs 8 [.agg [vS u110.Name, vI u110.At].toArray] (cs := [vS u110.Name, vI u110.At]) rfl rfl (bsA rfl)) ?_
      rintro _ _ ⟨g115, W115, rfl, rfl, l115, b115⟩
      refine ⟨⟨_, rfl, (l115.sub (M := [5]) rfl)⟩, ?_⟩
      obtain ⟨q122, e123, hm⟩ := ob hm
      refine Mw.t rfl rfl (T.app1S (α := Head) (K' := []) (o106.up l115 rfl) b115 (Head.rd (K := []) u110.Name u110.At) rfl rfl e123) ?_
      rintro v124 _ ⟨W124, rfl, l124, o124⟩
      refine ⟨⟨_, rfl, ((l115.sub (M := [5]) rfl).trans (l124.sub (M := [5]) rfl))⟩, ?_⟩
      refine Mw.p rfl rfl (fun _ => R.fa rfl) (Mw.lu rfl (T.st (j := 1) (v := v124) ((b109.up l115 rfl).up l124 rfl) rfl rfl o124.oc rfl rfl) ?_)
      rintro _ _ ⟨W131, rfl, l131, b131⟩
      refine Mw.nil (⟨?_, ⟨z65.2, z5.1.Commits, q122, vI z56.1, v0_0_7, v124, W131, rfl, ((l58.sub rfl).trans ((l67.sub rfl).trans ((l103.sub rfl).trans ((l115.sub rfl).trans ((l124.sub rfl).trans (l131.sub rfl)))))), rfl, ((((f67_0.up l103 rfl).up l115 rfl).up l124 rfl).up l131 rfl), ((((o69.up l103 rfl).up l115 rfl).up l124 rfl).up l131 rfl), (o124.up l131 rfl), b131, hm⟩⟩)
      iterate 27 (refine .u ?_)
      exact Agree.refl _
     ·replace hm := bf hm hc102
      refine Cw.skip (⟨?_, ⟨z65.2, z5.1.Commits, z5.1.Heads, vI z56.1, v0_0_7, v0_1_7, W67, rfl, ((l58.sub rfl).trans (l67.sub rfl)), rfl, f67_0, o69, o70, b72, hm⟩⟩)
      iterate 18 (refine .u ?_)
      exact Agree.refl _
  ·replace hm := bf hm hc54
   refine Cw.skip (⟨?_, ⟨z5.2, z5.1.Commits, z5.1.Heads, undef, v0_0_7, v0_1_7, W16, rfl, Le.refl _ _, rfl, b20, o18, o19, b16, hm⟩⟩)
   iterate 4 (refine .u ?_)
   exact Agree.refl _

theorem p25 {W : CW} {K : List Nat} {x0 : Vm.l30Rd} {g0_ : Nat} {v0_0_ : Value} {k0 : Nat} {k1 : Nat} {c0 : Nat} {r : Vm.Repo × Int} (hB0 : Bx W c0 g0_ [v0_0_, vI x0.p]) (h0_0 : Rd W K [v0_0_] x0.b) (hJ : okJ K [c0] = true) (hm : Vm.spec_l30AnyRepo x0 = some r) : CallR Tryz.prog 25 [ptr (bx g0_)].toArray W.w (Res W [c0] fun W' v => ∃ (u0_0 : Value) (u0_1 : Value), v = .agg [u0_0, u0_1].toArray ∧ Ow W' k0 [] [u0_0] r.1.Commits ∧ Ow W' k1 [] [u0_1] r.1.Heads ∧ Bx W' c0 g0_ [v0_0_, vI r.2]) :=
 CallR.adJ (J := [c0]) (fun c => bif Nat.beq c 0 then 0 else bif Nat.beq c 2 then c0 else bif Nat.beq c 31 then k0 else bif Nat.beq c 32 then k1 else 0) (c25 (V := W.view K [c0]) (hB0.viewJ 0 hJ) (h0_0.view _) hm) fun _ _ ⟨u0_0, u0_1, e, f0, f1, f2⟩ => ⟨u0_0, u0_1, e, f0.one1.backN rfl, f1.one1.backN rfl, Bx.backJ 0 f2 rfl⟩

theorem c26 {V : CW} {x0 : Vm.l30Rd} {g0_ : Nat} {v0_0_ : Value} {x1 : Vm.Repo} {v1_0_ : Value} {v1_1_ : Value} {r : Int × Int} (hB0 : Bx V 2 g0_ [v0_0_, vI x0.p]) (h0_0 : Rd V [0] [v0_0_] x0.b) (h1 : Rd V [0] [v1_0_, v1_1_] x1) (hm : Vm.spec_l30At x0 x1 = some r) : CallR Tryz.prog 26 [ptr (bx g0_), .agg [v1_0_, v1_1_].toArray].toArray V.w (Res V LL fun Wf v => v = vI r.1 ∧ Bx Wf 2 g0_ [v0_0_, vI r.2]) := by
 unfold Vm.spec_l30At at hm
 obtain ⟨w1_0, w1_1, he1, h1_0, h1_1⟩ := Repo.split h1
 simp only [List.cons.injEq, and_true, true_and] at he1
 obtain ⟨rfl, rfl⟩ := he1
 obtain ⟨W0, hW0⟩ : ∃ W, W = V := ⟨V, rfl⟩
 subst hW0
 refine CallR.of Tryz.func26 rfl rfl rfl rfl (Cw.seq (Cw.region (Lw.t rfl (T.box 3 (v := .agg [v1_0_, v1_1_].toArray) (cs := [v1_0_, v1_1_]) rfl rfl) ?_)))
 rintro _ _ ⟨g1, W1, rfl, rfl, l1, b1⟩
 have a2 := l1.o
 have b3 := hB0.up l1 rfl
 refine Lw.g (vI 0) rfl (Lw.nil (Cw.seq (Cw.seq (Cw.region (Lw.m (ptr (bx g0_)) rfl ?_)))))
 obtain ⟨z5, e6, hm⟩ := ob hm
 refine Lw.t rfl (T.call rfl (p48 (K := [0])  (c0 := 2) (x0 := x0) b3 (h0_0.ul a2) rfl e6)) ?_
 rintro _ _ ⟨W7, rfl, l7, ⟨rfl, f7_0⟩⟩
 have a8 := a2.t l7 rfl
 refine Lw.eq rfl (Lw.nil (Cw.cond (b := ((z5.1 : Int) == (0 : Int))) rfl (fun hc10 => ?_) (fun hc10 => ?_)))
 ·replace hm := bt hm hc10
  refine Cw.seq (Cw.region (Lw.m (ptr (bx g0_)) rfl (Lw.fa rfl (Lw.r rfl (R.ld (v := v1_0_) rfl rfl ((b1.up l7 rfl).cell rfl)) (Lw.ln x1.Commits (h1_0.ul a8) rfl (Lw.t rfl (T.bsS (α := Int) (xs := [(-1), (x1.Commits.length : Int)]) 4 [] (W := W7) [vI (-1), vI (x1.Commits.length : Int)] (Each.cons ((rdI _)) (Each.cons ((rdI _)) Each.nil)) rfl) ?_))))))
  rintro v12 _ ⟨W12, rfl, l12, o12⟩
  have a13 := a8.n l12
  obtain ⟨z17, e18, hm⟩ := ob hm
  refine Lw.t rfl (T.call rfl (p49 (K := [0, 4])  (c0 := 2) (x0 := (Vm.l30Rd.mk x0.b z5.2)) (f7_0.up l12 rfl) ((h0_0.ul a13).sub (M := [0, 4]) rfl) (o12.rd.sub (M := [0, 4]) rfl) rfl e18)) ?_
  rintro _ _ ⟨W19, rfl, l19, ⟨rfl, f19_0⟩⟩
  have a20 := a13.t l19 rfl
  refine Lw.g (vI z17.1) rfl (Lw.nil ?_)
  cases hm
  exact Cw.ret (ret1 rfl (Res.mk a20 ⟨rfl, f19_0⟩))
 ·replace hm := bf hm hc10
  refine Cw.skip (Cw.seq (Cw.region (Lw.m (ptr (bx g0_)) rfl (Lw.fa rfl (Lw.r rfl (R.ld (v := v1_0_) rfl rfl ((b1.up l7 rfl).cell rfl)) (Lw.ln x1.Commits (h1_0.ul a8) rfl ?_))))))
  obtain ⟨z25, e26, hm⟩ := ob hm
  refine Lw.t rfl (T.call rfl (p48 (K := [0])  (c0 := 2) (x0 := (Vm.l30Rd.mk x0.b z5.2)) f7_0 (h0_0.ul a8) rfl e26)) ?_
  rintro _ _ ⟨W27, rfl, l27, ⟨rfl, f27_0⟩⟩
  have a28 := a8.t l27 rfl
  refine Lw.g (vI z25.1) rfl (Lw.nil ?_)
  cases hm
  exact Cw.ret (ret1 rfl (Res.mk a28 ⟨rfl, f27_0⟩))

theorem p26 {W : CW} {K : List Nat} {x0 : Vm.l30Rd} {g0_ : Nat} {v0_0_ : Value} {x1 : Vm.Repo} {v1_0_ : Value} {v1_1_ : Value} {c0 : Nat} {r : Int × Int} (hB0 : Bx W c0 g0_ [v0_0_, vI x0.p]) (h0_0 : Rd W K [v0_0_] x0.b) (h1 : Rd W K [v1_0_, v1_1_] x1) (hJ : okJ K [c0] = true) (hm : Vm.spec_l30At x0 x1 = some r) : CallR Tryz.prog 26 [ptr (bx g0_), .agg [v1_0_, v1_1_].toArray].toArray W.w (Res W [c0] fun W' v => v = vI r.1 ∧ Bx W' c0 g0_ [v0_0_, vI r.2]) :=
 CallR.adJ (J := [c0]) (fun c => bif Nat.beq c 0 then 0 else bif Nat.beq c 2 then c0 else 0) (c26 (V := W.view K [c0]) (hB0.viewJ 0 hJ) (h0_0.view _) (h1.view _) hm) fun _ _ ⟨e, f0⟩ => ⟨e, Bx.backJ 0 f0 rfl⟩

end Go.Sx
