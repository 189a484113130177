/- Walks: each function answers as its model, printed by a program of ours. Conditions: the arguments read as they are given. -/
import Derived.Test.YtjdljoplpcakpaaDoorXTs
import Derived.Test.YtjdljoplpcakpaaDoorXMd
import Derived.Test.YtjdljoplpcakpaaDoorXW2
import Derived.Test.YtjdljoplpcakpaaDoorXW3
namespace Go.Sx
open Go Go.Proofs Go.Vm Rp
set_option linter.unusedVariables false
set_option linter.unusedSimpArgs false

theorem c4 {V : CW} {x0 : Vm.Op} {v0_6_ : Value} {r : Bool} (h0 : Rd V [0] [vI x0.Kind, vS x0.Branch, vS x0.Who, vS x0.Path, vS x0.To, vI x0.At, v0_6_] x0) (h99 : Gl 0 V [0]) (hm : Vm.laws_FnExactOpOk x0 = some r) : CallR Tryd.prog 4 [.agg [vI x0.Kind, vS x0.Branch, vS x0.Who, vS x0.Path, vS x0.To, vI x0.At, v0_6_].toArray].toArray V.w (Res V LL fun Wf v => v = vB r) := by
 unfold Vm.laws_FnExactOpOk at hm
 obtain ⟨w0_0, he0, h0_6⟩ := Op.split h0
 simp only [List.cons.injEq, and_true, true_and] at he0
 obtain rfl := he0
 obtain ⟨W0, hW0⟩ : ∃ W, W = V := ⟨V, rfl⟩
 subst hW0
 refine CallR.of Tryd.func4 rfl rfl rfl rfl (Cw.seq (Cw.region (Lw.t rfl (T.box 2 (v := .agg [vI x0.Kind, vS x0.Branch, vS x0.Who, vS x0.Path, vS x0.To, vI x0.At, v0_6_].toArray) (cs := [vI x0.Kind, vS x0.Branch, vS x0.Who, vS x0.Path, vS x0.To, vI x0.At, v0_6_]) rfl rfl) ?_)))
 rintro _ _ ⟨g1, W1, rfl, rfl, l1, b1⟩
 have a2 := l1.o
 refine Lw.g (vB false) rfl (Lw.nil (Cw.seq (Cw.region (Lw.g (vI 1048576) rfl (Lw.nil (Cw.seq (Cw.region (Lw.r rfl (R.lda (cs := [vI x0.Kind, vS x0.Branch, vS x0.Who, vS x0.Path, vS x0.To, vI x0.At, v0_6_]) b1.cells rfl rfl) (Lw.m (vI 1048576) rfl ?_)))))))))
 obtain ⟨z4, e5, hm⟩ := ob hm
 refine Lw.t rfl (T.call rfl (p10 (K := [0])  (Op.rd (K := [0]) x0.Kind x0.Branch x0.Who x0.Path x0.To x0.At x0.Text (h0_6.ul a2)) e5)) ?_
 rintro _ _ ⟨W6, rfl, l6, rfl⟩
 have a7 := a2.n l6
 refine Lw.g (vI z4) rfl (Lw.nil (Cw.seq (Cw.seq (Cw.region (Lw.m (vI z4) rfl (Lw.lt rfl (Lw.nil (Cw.cond (b := decide ((z4 : Int) < (0 : Int))) rfl (fun hc9 => ?_) (fun hc9 => ?_)))))))))
 ·replace hm := bt hm hc9
  refine Cw.seq (Cw.region (Lw.g (vB true) rfl (Lw.nil ?_)))
  cases hm
  exact Cw.ret (ret1 rfl (Res.mk a7 rfl))
 ·replace hm := bf hm hc9
  refine Cw.skip (Cw.seq (Cw.region (Lw.r rfl (R.lda (cs := [vI x0.Kind, vS x0.Branch, vS x0.Who, vS x0.Path, vS x0.To, vI x0.At, v0_6_]) (b1.up l6 rfl).cells rfl rfl) ?_)))
  obtain ⟨z11, e12, hm⟩ := ob hm
  refine Lw.t rfl (T.call rfl (p12 (K := [0]) (k0 := 3) (Op.rd (K := [0]) x0.Kind x0.Branch x0.Who x0.Path x0.To x0.At x0.Text (h0_6.ul a7)) e12)) ?_
  rintro _ _ ⟨W13, rfl, l13, ⟨v0_6_13, rfl, f13_0⟩⟩
  have a14 := a7.n l13
  obtain ⟨z16, e17, hm⟩ := ob hm
  refine Lw.t rfl (T.call rfl (p11 (K := [3])  (x0 := (Vm.Op.mk z11.Kind z11.Branch z11.Who z11.Path z11.To z11.At z11.Text)) (Op.rd (K := [3]) z11.Kind z11.Branch z11.Who z11.Path z11.To z11.At z11.Text f13_0.rd) e17)) ?_
  rintro _ _ ⟨W18, rfl, l18, rfl⟩
  have a19 := a14.n l18
  have b21 := ((b1.up l6 rfl).up l13 rfl).up l18 rfl
  refine Lw.g (vB z16) rfl (Lw.nil (Cw.seq (Cw.region (Lw.r rfl (R.lda (cs := [vI x0.Kind, vS x0.Branch, vS x0.Who, vS x0.Path, vS x0.To, vI x0.At, v0_6_]) b21.cells rfl rfl) ?_))))
  obtain ⟨z23, e24, hm⟩ := ob hm
  refine Lw.t rfl (T.call rfl (p12 (K := [0]) (k0 := 4) (Op.rd (K := [0]) x0.Kind x0.Branch x0.Who x0.Path x0.To x0.At x0.Text (h0_6.ul a19)) e24)) ?_
  rintro _ _ ⟨W25, rfl, l25, ⟨v0_6_25, rfl, f25_0⟩⟩
  have a26 := a19.n l25
  refine Lw.t rfl (T.alloc 5 (cs := [vI 0, vS ([] : Str), vS ([] : Str), vS ([] : Str), vS ([] : Str), vI 0, .slice none 0 0]) rfl) ?_
  rintro _ _ ⟨g29, W29, rfl, rfl, l29, b29⟩
  have a30 := a26.n l29
  refine Lw.u (T.sta (vs := [vI z23.Kind, vS z23.Branch, vS z23.Who, vS z23.Path, vS z23.To, vI z23.At, v0_6_25]) b29 rfl rfl (oc_cons rfl (oc_cons rfl (oc_cons rfl (oc_cons rfl (oc_cons rfl (oc_cons rfl (oc_cons (f25_0.up l29 rfl).oc oc_nil))))))) rfl rfl) ?_
  rintro _ _ ⟨W34, rfl, l34, b34⟩
  have a35 := a30.t l34 rfl
  have o37 := (f25_0.up l29 rfl).up l34 rfl
  refine Lw.nil (Cw.seq (Cw.region (Lw.r rfl (R.lda (cs := [vI z23.Kind, vS z23.Branch, vS z23.Who, vS z23.Path, vS z23.To, vI z23.At, v0_6_25]) b34.cells rfl rfl) ?_)))
  obtain ⟨z40, e41, hm⟩ := ob hm
  refine Lw.t rfl (T.call rfl (p13 (K := [0, 4])  (x0 := (Vm.Op.mk z23.Kind z23.Branch z23.Who z23.Path z23.To z23.At z23.Text)) ((Op.rd (K := [4]) z23.Kind z23.Branch z23.Who z23.Path z23.To z23.At z23.Text o37.rd).sub (M := [0, 4]) rfl) ((h99.ul a35).sub (M := [0, 4]) rfl) e41)) ?_
  rintro _ _ ⟨W42, rfl, l42, rfl⟩
  have a43 := a35.n l42
  refine Lw.g (vB z40) rfl (Lw.nil (Cw.seq (Cw.seq (Cw.region (Lw.m (vB z40) rfl (Lw.m (vB z16) rfl (Lw.r rfl (R.bne rfl rfl) (Lw.nil (Cw.cond (b := (z40 != z16)) rfl (fun hc48 => ?_) (fun hc48 => ?_))))))))))
  ·replace hm := bt hm hc48
   refine Cw.seq (Cw.region (Lw.g (vB false) rfl (Lw.nil ?_)))
   cases hm
   exact Cw.ret (ret1 rfl (Res.mk a43 rfl))
  ·replace hm := bf hm hc48
   refine Cw.skip (Cw.seq (Cw.seq (Cw.draw [] [(0, 1), (1, 1), (2, 2), (3, 2), (4, 0)] mixed (by kernel_rfl) fun W49 l49 => ?_)))
   have a50 := a43.n l49
   refine Mw.q rfl rfl (fun _ c => R.lda (cs := [vI z23.Kind, vS z23.Branch, vS z23.Who, vS z23.Path, vS z23.To, vI z23.At, v0_6_25]) (((b34.up l42 rfl).up l49 rfl).clcs rfl c) rfl rfl) (Mw.q rfl rfl (fun _ c => R.lda (cs := [vI x0.Kind, vS x0.Branch, vS x0.Who, vS x0.Path, vS x0.To, vI x0.At, v0_6_]) ((((((b21.up l25 rfl).up l29 rfl).up l34 rfl).up l42 rfl).up l49 rfl).clcs rfl c) rfl rfl) ?_)
   obtain ⟨z56, e57, hm⟩ := ob hm
   refine Mw.t rfl rfl (T.call rfl (p12 (K := [0]) (k0 := 6) (Op.rd (K := [0]) x0.Kind x0.Branch x0.Who x0.Path x0.To x0.At x0.Text (h0_6.ul a50)) e57)) ?_
   rintro _ _ ⟨W58, rfl, l58, ⟨v0_6_58, rfl, f58_0⟩⟩
   have a59 := a50.n l58
   refine ⟨⟨_, rfl, (l58.sub (M := []) rfl)⟩, ?_⟩
   obtain ⟨z64, e65, hm⟩ := ob hm
   refine Mw.t rfl rfl (T.call rfl (p14 (K := [4, 6])  (x0 := (Vm.Op.mk z23.Kind z23.Branch z23.Who z23.Path z23.To z23.At z23.Text)) (x1 := (Vm.Op.mk z56.Kind z56.Branch z56.Who z56.Path z56.To z56.At z56.Text)) ((Op.rd (K := [4]) z23.Kind z23.Branch z23.Who z23.Path z23.To z23.At z23.Text (((o37.up l42 rfl).up l49 rfl).up l58 rfl).rd).sub (M := [4, 6]) rfl) ((Op.rd (K := [6]) z56.Kind z56.Branch z56.Who z56.Path z56.To z56.At z56.Text f58_0.rd).sub (M := [4, 6]) rfl) e65)) ?_
   rintro _ _ ⟨W66, rfl, l66, rfl⟩
   have a67 := a59.n l66
   refine ⟨⟨_, rfl, ((l58.sub (M := []) rfl).trans (l66.sub (M := []) rfl))⟩, ?_⟩
   refine Mw.p rfl rfl (fun _ => R.not rfl) (Mw.nil (Cw.cond (b := (!z64)) rfl (fun hc73 => ?_) (fun hc73 => ?_)))
   ·replace hm := bt hm hc73
    refine Cw.seq (Cw.region (Lw.g (vB false) rfl (Lw.nil ?_)))
    cases hm
    exact Cw.ret (ret1 rfl (Res.mk a67 rfl))
   ·replace hm := bf hm hc73
    refine Cw.skip (Cw.seq (Cw.region (Lw.g (vB true) rfl (Lw.nil ?_))))
    cases hm
    exact Cw.ret (ret1 rfl (Res.mk a67 rfl))

theorem p4 {W : CW} {K : List Nat} {x0 : Vm.Op} {v0_6_ : Value} {r : Bool} (h0 : Rd W K [vI x0.Kind, vS x0.Branch, vS x0.Who, vS x0.Path, vS x0.To, vI x0.At, v0_6_] x0) (h99 : Gl 0 W K) (hm : Vm.laws_FnExactOpOk x0 = some r) : CallR Tryd.prog 4 [.agg [vI x0.Kind, vS x0.Branch, vS x0.Who, vS x0.Path, vS x0.To, vI x0.At, v0_6_].toArray].toArray W.w (Res W [] fun W' v => v = vB r) :=
 (c4 (V := W.view K []) (h0.view _) (h99.view _) hm).ad (fk 0) fun _ _ e => e

end Go.Sx
