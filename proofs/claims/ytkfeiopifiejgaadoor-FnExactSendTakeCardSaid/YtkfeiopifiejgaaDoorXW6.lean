/- Walks: each function answers as its model, printed by a program of ours. Conditions: the arguments read as they are given. -/
import Derived.Test.YtkfeiopifiejgaaDoorXTs
import Derived.Test.YtkfeiopifiejgaaDoorXMd
import Derived.Test.YtkfeiopifiejgaaDoorXW0
import Derived.Test.YtkfeiopifiejgaaDoorXW3
import Derived.Test.YtkfeiopifiejgaaDoorXW4
import Derived.Test.YtkfeiopifiejgaaDoorXW5
namespace Go.Sx
open Go Go.Proofs Go.Vm Rp
set_option linter.unusedVariables false
set_option linter.unusedSimpArgs false

variable {W W0 : CW} {K : List Nat}
theorem c4 {x0 v0_0_ v0_1_ x1 v1_ x2 v2_ x3 r} (h0 : Rd W0 [0] [v0_0_, v0_1_] x0) (h1 : Rd W0 [0] [v1_] x1) (h2 : Rd W0 [0] [v2_] x2) (h99 : Gl 2 W0 [0]) (hm : Vm.laws_FnExactSendTake x0 x1 x2 x3 = some r) : Q0 4 [.agg [v0_0_, v0_1_].toArray, v1_, v2_, vS x3] W0 fun Wf v => v = vB r := by
 unfold Vm.laws_FnExactSendTake at hm
 obtain ⟨w0_0, w0_1, he0, h0_0, h0_1⟩ := Repo.split h0
 simp only [List.cons.injEq, and_true, true_and] at he0
 obtain ⟨rfl, rfl⟩ := he0
 refine CallR.of Tryd.func4 rfl rfl rfl rfl (sr (bo 2 rfl fun g1 W1 l1 b1 => ?_))
 have a2 := l1.o
 refine Nb rfl (ssr (mv v1_ rfl (Lw.ln x1 (h1.ul a2) rfl (Lw.gt rfl (nl (cn hm (fun hm => ?_) fun hm => ?_))))))
 ·exact sr (Nb rfl (.ret (rt hm a2)))
 ·refine sk (ssr (ms rfl (Lw.r rfl (R.lenS rfl) (Lw.gt rfl (nl (cn hm (fun hm => ?_) fun hm => ?_))))))
  ·exact sr (Nb rfl (.ret (rt hm a2)))
  ·refine sk (sr (Ni rfl (sr (la b1 (mi rfl (ca hm (fun _ => p8 (Repo.rd (K := [0]) x0.Commits x0.Heads (h0_0.ul a2) (h0_1.ul a2))) fun z8 W10 hm l10 => ?_))))))
   have a11 := a2.n l10
   refine Ni rfl (ssr (mi rfl (Lw.lt rfl (nl (cn hm (fun hm => ?_) fun hm => ?_)))))
   ·exact sr (Nb rfl (.ret (rt hm a11)))
   ·refine sk (sr (mv v2_ rfl (mi rfl (ca hm (fun _ => p19 (h2.ul a11)) fun z15 W17 hm l17 => ?_))))
    have a18 := a11.n l17
    have b19 := (b1.up l10).up l17
    refine Ni rfl (ssr (mi rfl (Lw.lt rfl (nl (cn hm (fun hm => ?_) fun hm => ?_)))))
    ·exact sr (Nb rfl (.ret (rt hm a18)))
    ·refine sk (sr (la b19 (cr hm (fun _ => p11 (k0 := 3) (k1 := 4) (Repo.rd (K := [0]) x0.Commits x0.Heads (h0_0.ul a18) (h0_1.ul a18))) ?_)))
     rintro z23 _ W25 hm l25 ⟨v0_0_25, v0_1_25, rfl, f25_0, f25_1⟩
     have a26 := a18.n l25
     refine mv v1_ rfl (cr hm (fun _ => p21 (k0 := 5) (h1.ul a26)) ?_)
     rintro z29 v0_31 W31 hm l31 ⟨_, rfl, f31_0⟩
     have a32 := a26.n l31
     refine mv v2_ rfl (cr hm (fun _ => p22 (k0 := 6) (h2.ul a32)) ?_)
     rintro z37 v0_39 W39 hm l39 ⟨_, rfl, f39_0⟩
     have a40 := a32.n l39
     refine ms rfl (cr hm (fun _ => p20 (K := [3, 4, 5, 6]) (x0 := (Vm.Repo.mk z23.Commits z23.Heads)) ((Repo.rd (K := [3, 4]) z23.Commits z23.Heads (((f25_0.up l31).up l39).rd.sub (M := [3, 4]) rfl) (((f25_1.up l31).up l39).rd.sub (M := [3, 4]) rfl)).sub (M := [3, 4, 5, 6]) rfl) ((f31_0.up l39).rd.sub (M := [3, 4, 5, 6]) rfl) (f39_0.rd.sub (M := [3, 4, 5, 6]) rfl)) ?_)
     rintro z45 _ W47 hm l47 ⟨v0_0_47, v0_1_47, rfl, f47_0, f47_1⟩
     have s48 := f47_0.sub (M := [0, 3, 4, 5, 6]) rfl
     have s49 := f47_1.sub (M := [0, 3, 4, 5, 6]) rfl
     have a50 := a40.n l47
     refine mv (.tuple [.agg [v0_0_47, v0_1_47].toArray, vB z45.2].toArray) rfl (Lw.r rfl (R.ext (vs := [.agg [v0_0_47, v0_1_47].toArray, vB z45.2]) (v := .agg [v0_0_47, v0_1_47].toArray) rfl rfl) (Lw.r rfl (R.ext (vs := [.agg [v0_0_47, v0_1_47].toArray, vB z45.2]) (v := vB z45.2) rfl rfl) (al 7 [.slice none 0 0, .slice none 0 0] fun g56 W56 l56 b56 => ?_)))
     have a57 := a50.n l56
     refine sta b56 (oc_cons s48.oc (oc_cons s49.oc oc_nil)) fun W63 l63 b63 => ?_
     have a64 := a57.t l63
     have b69 := (((((b19.up l25).up l31).up l39).up l47).up l56).up l63
     refine Nb rfl (sr (la b69 (cr hm (fun _ => p11 (k0 := 8) (k1 := 9) (Repo.rd (K := [0]) x0.Commits x0.Heads (h0_0.ul a64) (h0_1.ul a64))) ?_)))
     rintro z72 _ W74 hm l74 ⟨v0_0_74, v0_1_74, rfl, f74_0, f74_1⟩
     have a75 := a64.n l74
     refine al 10 [.slice none 0 0, .slice none 0 0] fun g82 W82 l82 b82 => ?_
     have a83 := a75.n l82
     refine sta b82 (oc_cons (f74_0.up l82).oc (oc_cons (f74_1.up l82).oc oc_nil)) fun W92 l92 b92 => ?_
     have a93 := a83.t l92
     refine nl (sr (mv v1_ rfl (cr hm (fun _ => p21 (k0 := 11) (h1.ul a93)) ?_)))
     rintro z103 v0_105 W105 hm l105 ⟨_, rfl, f105_0⟩
     have a106 := a93.n l105
     refine Nv v0_105 rfl (sr (mv v2_ rfl (cr hm (fun _ => p22 (k0 := 12) (h2.ul a106)) ?_)))
     rintro z117 v0_119 W119 hm l119 ⟨_, rfl, f119_0⟩
     have a120 := a106.n l119
     have o125 := (((f74_0.up l82).up l92).up l105).up l119
     have o126 := (((f74_1.up l82).up l92).up l105).up l119
     have b130 := (b92.up l105).up l119
     refine Nv v0_119 rfl (sr (la b130 (mv v0_105 rfl (mv v0_119 rfl (ms rfl (cr hm (fun _ => p23 (K := [0, 8, 9, 11, 12]) (k0 := 13) (k1 := 14) (x0 := (Vm.Repo.mk z72.Commits z72.Heads)) ((Repo.rd (K := [8, 9]) z72.Commits z72.Heads (o125.rd.sub (M := [8, 9]) rfl) (o126.rd.sub (M := [8, 9]) rfl)).sub (M := [0, 8, 9, 11, 12]) rfl) ((f105_0.up l119).rd.sub (M := [0, 8, 9, 11, 12]) rfl) (f119_0.rd.sub (M := [0, 8, 9, 11, 12]) rfl) ((h99.ul a120).sub (M := [0, 8, 9, 11, 12]) rfl)) ?_))))))
     rintro z132 _ W134 hm l134 ⟨v0_0_134, v0_1_134, rfl, f134_0, f134_1⟩
     have a135 := a120.n l134
     refine mv (.tuple [.agg [v0_0_134, v0_1_134].toArray, vB z132.2].toArray) rfl (Lw.r rfl (R.ext (vs := [.agg [v0_0_134, v0_1_134].toArray, vB z132.2]) (v := .agg [v0_0_134, v0_1_134].toArray) rfl rfl) (Lw.r rfl (R.ext (vs := [.agg [v0_0_134, v0_1_134].toArray, vB z132.2]) (v := vB z132.2) rfl rfl) (al 15 [.slice none 0 0, .slice none 0 0] fun g147 W147 l147 b147 => ?_)))
     have a148 := a135.n l147
     refine sta b147 (oc_cons (f134_0.up l147).oc (oc_cons (f134_1.up l147).oc oc_nil)) fun W162 l162 b162 => ?_
     have a163 := a148.t l162
     have o172 := (f134_0.up l147).up l162
     have o173 := (f134_1.up l147).up l162
     have b175 := (((((((b63.up l74).up l82).up l92).up l105).up l119).up l134).up l147).up l162
     refine Nb rfl (Cw.seq ?_)
     obtain ⟨K179, hK179, hm⟩ := jn_e hm
     refine Cw.join 63 71 [71] (fun l w => ∃ y177 W178, CW.w W178 = w ∧ Le [] W162 W178 ∧ l = [vB y177] ∧ K179 y177 = some r) ?_ ?_
     ·rintro _ _ σ ⟨y177, W178, rfl, l178, rfl, hm⟩
      rw [hK179] at hm
      have a180 := a163.n l178
      refine cn hm (fun hm => ?_) fun hm => ?_
      ·exact sr (Nb rfl (.ret (rt hm a180)))
      ·refine sk (Cw.seq (Cw.seq (Cw.draw [] [(0, 1), (1, 1), (2, 2), (3, 2), (4, 0)] mixed (by kernel_rfl) fun W196 l196 => ?_)))
       have a197 := a180.n l196
       have b208 := (((((((((b69.up l74).up l82).up l92).up l105).up l119).up l134).up l147).up l162).up l178).up l196
       have b210 := ((((b130.up l134).up l147).up l162).up l178).up l196
       refine Mw.q rfl rfl (fun _ c => R.lda (cs := [v0_0_74, v0_1_74]) (b210.clcs rfl c) rfl rfl) (Mw.q rfl rfl (fun _ c => R.lda (cs := [v0_0_, v0_1_]) (b208.clcs rfl c) rfl rfl) ?_)
       obtain ⟨z214, e215, hm⟩ := ob hm
       refine Mw.t rfl rfl (T.call rfl (p11 (k0 := 16) (k1 := 17) (Repo.rd (K := [0]) x0.Commits x0.Heads (h0_0.ul a197) (h0_1.ul a197)) e215)) ?_
       rintro _ _ ⟨W216, rfl, l216, ⟨v0_0_216, v0_1_216, rfl, f216_0, f216_1⟩⟩
       have a217 := a197.n l216
       have o222 := (((((o125.up l134).up l147).up l162).up l178).up l196).up l216
       have o223 := (((((o126.up l134).up l147).up l162).up l178).up l196).up l216
       refine m0 l216 fun d216 => ?_
       obtain ⟨z232, e233, hm⟩ := ob hm
       refine Mw.t rfl rfl (T.call rfl (p14 (K := [8, 9, 16, 17])  (x0 := (Vm.Repo.mk z72.Commits z72.Heads)) (x1 := (Vm.Repo.mk z214.Commits z214.Heads)) ((Repo.rd (K := [8, 9]) z72.Commits z72.Heads (o222.rd.sub (M := [8, 9]) rfl) (o223.rd.sub (M := [8, 9]) rfl)).sub (M := [8, 9, 16, 17]) rfl) ((Repo.rd (K := [16, 17]) z214.Commits z214.Heads (f216_0.rd.sub (M := [16, 17]) rfl) (f216_1.rd.sub (M := [16, 17]) rfl)).sub (M := [8, 9, 16, 17]) rfl) e233)) ?_
       rintro _ _ ⟨W234, rfl, l234, rfl⟩
       have a235 := a217.n l234
       refine mc d216 l234 fun d234 => Mw.p rfl rfl (fun _ => R.not rfl) (Mw.nil (cn hm (fun hm => ?_) fun hm => ?_))
       ·exact sr (Nb rfl (.ret (rt hm a235)))
       ·refine sk (ssr (mv v0_105 rfl (mv v1_ rfl (cr hm (fun _ => p21 (k0 := 18) (h1.ul a235)) ?_))))
        rintro z254 v0_256 W256 hm l256 ⟨_, rfl, f256_0⟩
        have a257 := a235.n l256
        have o264 := ((((((((f105_0.up l119).up l134).up l147).up l162).up l178).up l196).up l216).up l234).up l256
        refine ca hm (fun _ => p24 (K := [11, 18]) (o264.rd.sub (M := [11, 18]) rfl) (f256_0.rd.sub (M := [11, 18]) rfl)) fun z274 W276 hm l276 => ?_
        have a277 := a257.n l276
        refine Lw.r rfl (R.not rfl) (nl (cn hm (fun hm => ?_) fun hm => ?_))
        ·exact sr (Nb rfl (.ret (rt hm a277)))
        ·refine sk (ssr (mv v0_119 rfl (mv v2_ rfl (cr hm (fun _ => p22 (k0 := 19) (h2.ul a277)) ?_))))
         rintro z297 v0_299 W299 hm l299 ⟨_, rfl, f299_0⟩
         have a300 := a277.n l299
         have o308 := (((((((((f119_0.up l134).up l147).up l162).up l178).up l196).up l216).up l234).up l256).up l276).up l299
         refine ca hm (fun _ => p25 (K := [12, 19]) (o308.rd.sub (M := [12, 19]) rfl) (f299_0.rd.sub (M := [12, 19]) rfl)) fun z318 W320 hm l320 => ?_
         have a321 := a300.n l320
         refine Lw.r rfl (R.not rfl) (nl (cn hm (fun hm => ?_) fun hm => ?_))
         ·exact sr (Nb rfl (.ret (rt hm a321)))
         ·refine sk (sr (Ni rfl (sr (la ((((((b210.up l216).up l234).up l256).up l276).up l299).up l320) (mi rfl (cr hm (fun _ => p16 (K := [0]) (c0 := 8) (c1 := 9) (x0 := (Vm.Repo.mk z72.Commits z72.Heads)) (((((o222.up l234).up l256).up l276).up l299).up l320) (((((o223.up l234).up l256).up l276).up l299).up l320) rfl) ?_))))))
          rintro z341 _ W343 hm l343 ⟨rfl, f343_0, f343_1⟩
          have a344 := a321.t l343
          refine Ni rfl (sr (mv v0_105 rfl (mi rfl (cr hm (fun _ => p26 (K := [0]) (c0 := 11) ((((o264.up l276).up l299).up l320).up l343) rfl) ?_))))
          rintro z361 _ W363 hm l363 ⟨rfl, f363_0⟩
          have a364 := a344.t l363
          refine Ni rfl (sr (mv v0_119 rfl (mi rfl (cr hm (fun _ => p27 (K := [0]) (c0 := 12) (((o308.up l320).up l343).up l363) rfl) ?_))))
          rintro z382 _ W384 hm l384 ⟨rfl, f384_0⟩
          have a385 := a364.t l384
          have o393 := ((((((((((o172.up l178).up l196).up l216).up l234).up l256).up l276).up l299).up l320).up l343).up l363).up l384
          have o394 := ((((((((((o173.up l178).up l196).up l216).up l234).up l256).up l276).up l299).up l320).up l343).up l363).up l384
          have b400 := ((((((((((b175.up l178).up l196).up l216).up l234).up l256).up l276).up l299).up l320).up l343).up l363).up l384
          have b402 := ((((((((((b162.up l178).up l196).up l216).up l234).up l256).up l276).up l299).up l320).up l343).up l363).up l384
          refine Ni rfl (Cw.seq ?_)
          obtain ⟨K405, hK405, hm⟩ := jn_e hm
          refine Cw.join 96 108 [108] (fun l w => ∃ y403 W404, CW.w W404 = w ∧ Le [] W384 W404 ∧ l = [vB y403] ∧ K405 y403 = some r) ?_ ?_
          ·rintro _ _ σ ⟨y403, W404, rfl, l404, rfl, hm⟩
           rw [hK405] at hm
           have a406 := a385.n l404
           refine cn hm (fun hm => ?_) fun hm => ?_
           ·exact sr (Nb rfl (.ret (rt hm a406)))
           ·refine sk (sr (Ni rfl (sr (la (b402.up l404) (mi rfl (cr hm (fun _ => p16 (K := [0]) (c0 := 13) (c1 := 14) (x0 := (Vm.Repo.mk z132.1.Commits z132.1.Heads)) (o393.up l404) (o394.up l404) rfl) ?_))))))
            rintro z426 _ W428 hm l428 ⟨rfl, f428_0, f428_1⟩
            have a429 := a406.t l428
            refine Ni rfl (sr (Ni rfl (sr (la ((b402.up l404).up l428) (mi rfl (ca hm (fun _ => p18 (K := [13, 14]) (x0 := (Vm.Repo.mk z426.2.Commits z426.2.Heads)) (Repo.rd (K := [13, 14]) z426.2.Commits z426.2.Heads (f428_0.rd.sub (M := [13, 14]) rfl) (f428_1.rd.sub (M := [13, 14]) rfl))) fun z446 W448 hm l448 => ?_))))))
            have a449 := a429.n l448
            refine Ni rfl (ssr (mi rfl (Lw.lt rfl (nl (cn hm (fun hm => ?_) fun hm => ?_)))))
            ·exact sr (Nb rfl (.ret (rt hm a449)))
            ·refine sk (ssr (mi rfl (mi rfl (Lw.ne rfl (nl (cn hm (fun hm => ?_) fun hm => ?_))))))
             ·exact sr (Nb rfl (.ret (rt hm a449)))
             ·refine sk (sr (la ((((((((((((b208.up l216).up l234).up l256).up l276).up l299).up l320).up l343).up l363).up l384).up l404).up l428).up l448) (cr hm (fun _ => p11 (k0 := 20) (k1 := 21) (Repo.rd (K := [0]) x0.Commits x0.Heads (h0_0.ul a449) (h0_1.ul a449))) ?_)))
              rintro z472 _ W474 hm l474 ⟨v0_0_474, v0_1_474, rfl, f474_0, f474_1⟩
              have a475 := a449.n l474
              refine mv v1_ rfl (cr hm (fun _ => p21 (k0 := 22) (h1.ul a475)) ?_)
              rintro z495 v0_497 W497 hm l497 ⟨_, rfl, f497_0⟩
              have a498 := a475.n l497
              refine mv v2_ rfl (cr hm (fun _ => p22 (k0 := 23) (h2.ul a498)) ?_)
              rintro z520 v0_522 W522 hm l522 ⟨_, rfl, f522_0⟩
              have a523 := a498.n l522
              refine ms rfl (cr hm (fun _ => p23 (K := [0, 20, 21, 22, 23]) (k0 := 24) (k1 := 25) (x0 := (Vm.Repo.mk z472.Commits z472.Heads)) ((Repo.rd (K := [20, 21]) z472.Commits z472.Heads (((f474_0.up l497).up l522).rd.sub (M := [20, 21]) rfl) (((f474_1.up l497).up l522).rd.sub (M := [20, 21]) rfl)).sub (M := [0, 20, 21, 22, 23]) rfl) ((f497_0.up l522).rd.sub (M := [0, 20, 21, 22, 23]) rfl) (f522_0.rd.sub (M := [0, 20, 21, 22, 23]) rfl) ((h99.ul a523).sub (M := [0, 20, 21, 22, 23]) rfl)) ?_)
              rintro z546 _ W548 hm l548 ⟨v0_0_548, v0_1_548, rfl, f548_0, f548_1⟩
              have a549 := a523.n l548
              refine mv (.tuple [.agg [v0_0_548, v0_1_548].toArray, vB z546.2].toArray) rfl (Lw.r rfl (R.ext (vs := [.agg [v0_0_548, v0_1_548].toArray, vB z546.2]) (v := .agg [v0_0_548, v0_1_548].toArray) rfl rfl) (Lw.r rfl (R.ext (vs := [.agg [v0_0_548, v0_1_548].toArray, vB z546.2]) (v := vB z546.2) rfl rfl) (al 26 [.slice none 0 0, .slice none 0 0] fun g572 W572 l572 b572 => ?_)))
              have a573 := a549.n l572
              refine sta b572 (oc_cons (f548_0.up l572).oc (oc_cons (f548_1.up l572).oc oc_nil)) fun W598 l598 b598 => ?_
              have a599 := a573.t l598
              refine Nb rfl (Cw.seq ?_)
              obtain ⟨K626, hK626, hm⟩ := jn_e hm
              refine Cw.join 131 139 [139] (fun l w => ∃ y624 W625, CW.w W625 = w ∧ Le [] W598 W625 ∧ l = [vB y624] ∧ K626 y624 = some r) ?_ ?_
              ·rintro _ _ σ ⟨y624, W625, rfl, l625, rfl, hm⟩
               rw [hK626] at hm
               have a627 := a599.n l625
               refine cn hm (fun hm => ?_) fun hm => ?_
               ·exact sr (Nb rfl (.ret (rt hm a627)))
               ·refine sk (sr (Ni rfl (sr (la ((((((((((b402.up l404).up l428).up l448).up l474).up l497).up l522).up l548).up l572).up l598).up l625) (mi rfl (ca hm (fun _ => p18 (K := [13, 14]) (x0 := (Vm.Repo.mk z426.2.Commits z426.2.Heads)) (Repo.rd (K := [13, 14]) z426.2.Commits z426.2.Heads (((((((((f428_0.up l448).up l474).up l497).up l522).up l548).up l572).up l598).up l625).rd.sub (M := [13, 14]) rfl) (((((((((f428_1.up l448).up l474).up l497).up l522).up l548).up l572).up l598).up l625).rd.sub (M := [13, 14]) rfl))) fun z654 W656 hm l656 => ?_))))))
                have a657 := a627.n l656
                refine Ni rfl (ssr (mi rfl (Lw.lt rfl (nl (cn hm (fun hm => ?_) fun hm => ?_)))))
                ·exact sr (Nb rfl (.ret (rt hm a657)))
                ·refine sk (ssr (mi rfl (mi rfl (Lw.ne rfl (nl (cn hm (fun hm => ?_) fun hm => ?_))))))
                 ·exact sr (Nb rfl (.ret (rt hm a657)))
                 ·exact sk (sr (Nb rfl (.ret (rt hm a657))))
              ·refine rg (la b598 (la (((((((((b400.up l404).up l428).up l448).up l474).up l497).up l522).up l548).up l572).up l598) ?_))
               have s685 := s48.up ((l56.sub (M := [7, 8, 9, 10, 11, 12, 13, 14, 15, 26]) rfl).trans ((l63.sub (M := [7, 8, 9, 10, 11, 12, 13, 14, 15, 26]) rfl).trans ((l74.sub (M := [7, 8, 9, 10, 11, 12, 13, 14, 15, 26]) rfl).trans ((l82.sub (M := [7, 8, 9, 10, 11, 12, 13, 14, 15, 26]) rfl).trans ((l92.sub (M := [7, 8, 9, 10, 11, 12, 13, 14, 15, 26]) rfl).trans ((l105.sub (M := [7, 8, 9, 10, 11, 12, 13, 14, 15, 26]) rfl).trans ((l119.sub (M := [7, 8, 9, 10, 11, 12, 13, 14, 15, 26]) rfl).trans ((l134.sub (M := [7, 8, 9, 10, 11, 12, 13, 14, 15, 26]) rfl).trans ((l147.sub (M := [7, 8, 9, 10, 11, 12, 13, 14, 15, 26]) rfl).trans ((l162.sub (M := [7, 8, 9, 10, 11, 12, 13, 14, 15, 26]) rfl).trans ((l178.sub (M := [7, 8, 9, 10, 11, 12, 13, 14, 15, 26]) rfl).trans ((l196.sub (M := [7, 8, 9, 10, 11, 12, 13, 14, 15, 26]) rfl).trans ((l216.sub (M := [7, 8, 9, 10, 11, 12, 13, 14, 15, 26]) rfl).trans ((l234.sub (M := [7, 8, 9, 10, 11, 12, 13, 14, 15, 26]) rfl).trans ((l256.sub (M := [7, 8, 9, 10, 11, 12, 13, 14, 15, 26]) rfl).trans ((l276.sub (M := [7, 8, 9, 10, 11, 12, 13, 14, 15, 26]) rfl).trans ((l299.sub (M := [7, 8, 9, 10, 11, 12, 13, 14, 15, 26]) rfl).trans ((l320.sub (M := [7, 8, 9, 10, 11, 12, 13, 14, 15, 26]) rfl).trans ((l343.sub (M := [7, 8, 9, 10, 11, 12, 13, 14, 15, 26]) rfl).trans ((l363.sub (M := [7, 8, 9, 10, 11, 12, 13, 14, 15, 26]) rfl).trans ((l384.sub (M := [7, 8, 9, 10, 11, 12, 13, 14, 15, 26]) rfl).trans ((l404.sub (M := [7, 8, 9, 10, 11, 12, 13, 14, 15, 26]) rfl).trans ((l428.sub (M := [7, 8, 9, 10, 11, 12, 13, 14, 15, 26]) rfl).trans ((l448.sub (M := [7, 8, 9, 10, 11, 12, 13, 14, 15, 26]) rfl).trans ((l474.sub (M := [7, 8, 9, 10, 11, 12, 13, 14, 15, 26]) rfl).trans ((l497.sub (M := [7, 8, 9, 10, 11, 12, 13, 14, 15, 26]) rfl).trans ((l522.sub (M := [7, 8, 9, 10, 11, 12, 13, 14, 15, 26]) rfl).trans ((l548.sub (M := [7, 8, 9, 10, 11, 12, 13, 14, 15, 26]) rfl).trans ((l572.sub (M := [7, 8, 9, 10, 11, 12, 13, 14, 15, 26]) rfl).trans (l598.sub (M := [7, 8, 9, 10, 11, 12, 13, 14, 15, 26]) rfl)))))))))))))))))))))))))))))) rfl
               have s686 := s49.up ((l56.sub (M := [7, 8, 9, 10, 11, 12, 13, 14, 15, 26]) rfl).trans ((l63.sub (M := [7, 8, 9, 10, 11, 12, 13, 14, 15, 26]) rfl).trans ((l74.sub (M := [7, 8, 9, 10, 11, 12, 13, 14, 15, 26]) rfl).trans ((l82.sub (M := [7, 8, 9, 10, 11, 12, 13, 14, 15, 26]) rfl).trans ((l92.sub (M := [7, 8, 9, 10, 11, 12, 13, 14, 15, 26]) rfl).trans ((l105.sub (M := [7, 8, 9, 10, 11, 12, 13, 14, 15, 26]) rfl).trans ((l119.sub (M := [7, 8, 9, 10, 11, 12, 13, 14, 15, 26]) rfl).trans ((l134.sub (M := [7, 8, 9, 10, 11, 12, 13, 14, 15, 26]) rfl).trans ((l147.sub (M := [7, 8, 9, 10, 11, 12, 13, 14, 15, 26]) rfl).trans ((l162.sub (M := [7, 8, 9, 10, 11, 12, 13, 14, 15, 26]) rfl).trans ((l178.sub (M := [7, 8, 9, 10, 11, 12, 13, 14, 15, 26]) rfl).trans ((l196.sub (M := [7, 8, 9, 10, 11, 12, 13, 14, 15, 26]) rfl).trans ((l216.sub (M := [7, 8, 9, 10, 11, 12, 13, 14, 15, 26]) rfl).trans ((l234.sub (M := [7, 8, 9, 10, 11, 12, 13, 14, 15, 26]) rfl).trans ((l256.sub (M := [7, 8, 9, 10, 11, 12, 13, 14, 15, 26]) rfl).trans ((l276.sub (M := [7, 8, 9, 10, 11, 12, 13, 14, 15, 26]) rfl).trans ((l299.sub (M := [7, 8, 9, 10, 11, 12, 13, 14, 15, 26]) rfl).trans ((l320.sub (M := [7, 8, 9, 10, 11, 12, 13, 14, 15, 26]) rfl).trans ((l343.sub (M := [7, 8, 9, 10, 11, 12, 13, 14, 15, 26]) rfl).trans ((l363.sub (M := [7, 8, 9, 10, 11, 12, 13, 14, 15, 26]) rfl).trans ((l384.sub (M := [7, 8, 9, 10, 11, 12, 13, 14, 15, 26]) rfl).trans ((l404.sub (M := [7, 8, 9, 10, 11, 12, 13, 14, 15, 26]) rfl).trans ((l428.sub (M := [7, 8, 9, 10, 11, 12, 13, 14, 15, 26]) rfl).trans ((l448.sub (M := [7, 8, 9, 10, 11, 12, 13, 14, 15, 26]) rfl).trans ((l474.sub (M := [7, 8, 9, 10, 11, 12, 13, 14, 15, 26]) rfl).trans ((l497.sub (M := [7, 8, 9, 10, 11, 12, 13, 14, 15, 26]) rfl).trans ((l522.sub (M := [7, 8, 9, 10, 11, 12, 13, 14, 15, 26]) rfl).trans ((l548.sub (M := [7, 8, 9, 10, 11, 12, 13, 14, 15, 26]) rfl).trans ((l572.sub (M := [7, 8, 9, 10, 11, 12, 13, 14, 15, 26]) rfl).trans (l598.sub (M := [7, 8, 9, 10, 11, 12, 13, 14, 15, 26]) rfl)))))))))))))))))))))))))))))) rfl
               refine ca hm (fun _ => p14 (K := [0, 3, 4, 5, 6, 24, 25]) (x0 := (Vm.Repo.mk z546.1.Commits z546.1.Heads)) ((Repo.rd (K := [24, 25]) z546.1.Commits z546.1.Heads (((f548_0.up l572).up l598).rd.sub (M := [24, 25]) rfl) (((f548_1.up l572).up l598).rd.sub (M := [24, 25]) rfl)).sub (M := [0, 3, 4, 5, 6, 24, 25]) rfl) ((Repo.rd (K := [0, 3, 4, 5, 6]) z45.1.Commits z45.1.Heads s685 s686).sub (M := [0, 3, 4, 5, 6, 24, 25]) rfl)) fun z687 W689 hm l689 => Lw.r rfl (R.not rfl) (mb rfl (bs hm (fun hc716 hm => ?_) fun hc716 hm => ?_))
               ·exact psk 3 hc716 rfl (Pb hc716 rfl (nl ((ag) ⟨true, W689, rfl, l689, rfl, hm⟩)))
               ·exact wak 3 hc716 (mb rfl (mb rfl (Lw.r rfl (R.bne rfl rfl) (Pb hc716 rfl (nl ((ag) ⟨(z546.2 != z45.2), W689, rfl, l689, rfl, hm⟩))))))
          ·refine rg (mi rfl (Lw.lt rfl (mb rfl (bs hm (fun hc717 hm => ?_) fun hc717 hm => ?_))))
           ·exact psk 4 hc717 rfl (Pb hc717 rfl (mb rfl (psk 3 rfl rfl (Pb rfl rfl (nl ((ag) ⟨true, W384, rfl, Le.refl _ _, rfl, hm⟩))))))
           ·refine wak 4 hc717 (la b402 (la b400 ?_))
            have s718 := s48.up ((l56.sub (M := [7, 8, 9, 10, 11, 12, 15]) rfl).trans ((l63.sub (M := [7, 8, 9, 10, 11, 12, 15]) rfl).trans ((l74.sub (M := [7, 8, 9, 10, 11, 12, 15]) rfl).trans ((l82.sub (M := [7, 8, 9, 10, 11, 12, 15]) rfl).trans ((l92.sub (M := [7, 8, 9, 10, 11, 12, 15]) rfl).trans ((l105.sub (M := [7, 8, 9, 10, 11, 12, 15]) rfl).trans ((l119.sub (M := [7, 8, 9, 10, 11, 12, 15]) rfl).trans ((l134.sub (M := [7, 8, 9, 10, 11, 12, 15]) rfl).trans ((l147.sub (M := [7, 8, 9, 10, 11, 12, 15]) rfl).trans ((l162.sub (M := [7, 8, 9, 10, 11, 12, 15]) rfl).trans ((l178.sub (M := [7, 8, 9, 10, 11, 12, 15]) rfl).trans ((l196.sub (M := [7, 8, 9, 10, 11, 12, 15]) rfl).trans ((l216.sub (M := [7, 8, 9, 10, 11, 12, 15]) rfl).trans ((l234.sub (M := [7, 8, 9, 10, 11, 12, 15]) rfl).trans ((l256.sub (M := [7, 8, 9, 10, 11, 12, 15]) rfl).trans ((l276.sub (M := [7, 8, 9, 10, 11, 12, 15]) rfl).trans ((l299.sub (M := [7, 8, 9, 10, 11, 12, 15]) rfl).trans ((l320.sub (M := [7, 8, 9, 10, 11, 12, 15]) rfl).trans ((l343.sub (M := [7, 8, 9, 10, 11, 12, 15]) rfl).trans ((l363.sub (M := [7, 8, 9, 10, 11, 12, 15]) rfl).trans (l384.sub (M := [7, 8, 9, 10, 11, 12, 15]) rfl))))))))))))))))))))) rfl
            have s719 := s49.up ((l56.sub (M := [7, 8, 9, 10, 11, 12, 15]) rfl).trans ((l63.sub (M := [7, 8, 9, 10, 11, 12, 15]) rfl).trans ((l74.sub (M := [7, 8, 9, 10, 11, 12, 15]) rfl).trans ((l82.sub (M := [7, 8, 9, 10, 11, 12, 15]) rfl).trans ((l92.sub (M := [7, 8, 9, 10, 11, 12, 15]) rfl).trans ((l105.sub (M := [7, 8, 9, 10, 11, 12, 15]) rfl).trans ((l119.sub (M := [7, 8, 9, 10, 11, 12, 15]) rfl).trans ((l134.sub (M := [7, 8, 9, 10, 11, 12, 15]) rfl).trans ((l147.sub (M := [7, 8, 9, 10, 11, 12, 15]) rfl).trans ((l162.sub (M := [7, 8, 9, 10, 11, 12, 15]) rfl).trans ((l178.sub (M := [7, 8, 9, 10, 11, 12, 15]) rfl).trans ((l196.sub (M := [7, 8, 9, 10, 11, 12, 15]) rfl).trans ((l216.sub (M := [7, 8, 9, 10, 11, 12, 15]) rfl).trans ((l234.sub (M := [7, 8, 9, 10, 11, 12, 15]) rfl).trans ((l256.sub (M := [7, 8, 9, 10, 11, 12, 15]) rfl).trans ((l276.sub (M := [7, 8, 9, 10, 11, 12, 15]) rfl).trans ((l299.sub (M := [7, 8, 9, 10, 11, 12, 15]) rfl).trans ((l320.sub (M := [7, 8, 9, 10, 11, 12, 15]) rfl).trans ((l343.sub (M := [7, 8, 9, 10, 11, 12, 15]) rfl).trans ((l363.sub (M := [7, 8, 9, 10, 11, 12, 15]) rfl).trans (l384.sub (M := [7, 8, 9, 10, 11, 12, 15]) rfl))))))))))))))))))))) rfl
            refine ca hm (fun _ => p14 (K := [0, 3, 4, 5, 6, 13, 14]) (x0 := (Vm.Repo.mk z132.1.Commits z132.1.Heads)) ((Repo.rd (K := [13, 14]) z132.1.Commits z132.1.Heads (o393.rd.sub (M := [13, 14]) rfl) (o394.rd.sub (M := [13, 14]) rfl)).sub (M := [0, 3, 4, 5, 6, 13, 14]) rfl) ((Repo.rd (K := [0, 3, 4, 5, 6]) z45.1.Commits z45.1.Heads s718 s719).sub (M := [0, 3, 4, 5, 6, 13, 14]) rfl)) fun z720 W722 hm l722 => Lw.r rfl (R.not rfl) (Pb hc717 rfl (mb rfl (bs hm (fun hc742 hm => ?_) fun hc742 hm => ?_)))
            ·exact psk 3 hc742 rfl (Pb hc742 rfl (nl ((ag) ⟨true, W722, rfl, l722, rfl, hm⟩)))
            ·exact wak 3 hc742 (mb rfl (mb rfl (Lw.r rfl (R.bne rfl rfl) (Pb hc742 rfl (nl ((ag) ⟨(z132.2 != z45.2), W722, rfl, l722, rfl, hm⟩))))))
     ·refine rg (la b162 (la b175 ?_))
      have s743 := s48.up ((l56.sub (M := [7, 10, 15]) rfl).trans ((l63.sub (M := [7, 10, 15]) rfl).trans ((l74.sub (M := [7, 10, 15]) rfl).trans ((l82.sub (M := [7, 10, 15]) rfl).trans ((l92.sub (M := [7, 10, 15]) rfl).trans ((l105.sub (M := [7, 10, 15]) rfl).trans ((l119.sub (M := [7, 10, 15]) rfl).trans ((l134.sub (M := [7, 10, 15]) rfl).trans ((l147.sub (M := [7, 10, 15]) rfl).trans (l162.sub (M := [7, 10, 15]) rfl)))))))))) rfl
      have s744 := s49.up ((l56.sub (M := [7, 10, 15]) rfl).trans ((l63.sub (M := [7, 10, 15]) rfl).trans ((l74.sub (M := [7, 10, 15]) rfl).trans ((l82.sub (M := [7, 10, 15]) rfl).trans ((l92.sub (M := [7, 10, 15]) rfl).trans ((l105.sub (M := [7, 10, 15]) rfl).trans ((l119.sub (M := [7, 10, 15]) rfl).trans ((l134.sub (M := [7, 10, 15]) rfl).trans ((l147.sub (M := [7, 10, 15]) rfl).trans (l162.sub (M := [7, 10, 15]) rfl)))))))))) rfl
      refine ca hm (fun _ => p14 (K := [0, 3, 4, 5, 6, 13, 14]) (x0 := (Vm.Repo.mk z132.1.Commits z132.1.Heads)) ((Repo.rd (K := [13, 14]) z132.1.Commits z132.1.Heads (o172.rd.sub (M := [13, 14]) rfl) (o173.rd.sub (M := [13, 14]) rfl)).sub (M := [0, 3, 4, 5, 6, 13, 14]) rfl) ((Repo.rd (K := [0, 3, 4, 5, 6]) z45.1.Commits z45.1.Heads s743 s744).sub (M := [0, 3, 4, 5, 6, 13, 14]) rfl)) fun z745 W747 hm l747 => Lw.r rfl (R.not rfl) (mb rfl (bs hm (fun hc763 hm => ?_) fun hc763 hm => ?_))
      ·exact psk 3 hc763 rfl (Pb hc763 rfl (nl ((ag) ⟨true, W747, rfl, l747, rfl, hm⟩)))
      ·exact wak 3 hc763 (mb rfl (mb rfl (Lw.r rfl (R.bne rfl rfl) (Pb hc763 rfl (nl ((ag) ⟨(z132.2 != z45.2), W747, rfl, l747, rfl, hm⟩))))))

theorem p4 {x0 v0_0_ v0_1_ x1 v1_ x2 v2_ x3 r} (h0 : Rd W K [v0_0_, v0_1_] x0) (h1 : Rd W K [v1_] x1) (h2 : Rd W K [v2_] x2) (h99 : Gl 2 W K) (hm : Vm.laws_FnExactSendTake x0 x1 x2 x3 = some r) : Q1 4 [.agg [v0_0_, v0_1_].toArray, v1_, v2_, vS x3] W [] fun W' v => v = vB r :=
 (c4 (h0.view _) (h1.view _) (h2.view _) (h99.view _) hm).ad (fk 0) fun _ _ e => e

end Go.Sx
