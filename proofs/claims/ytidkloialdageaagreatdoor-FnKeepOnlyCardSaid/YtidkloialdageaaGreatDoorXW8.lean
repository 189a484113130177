/- Walks: each function answers as its model, printed by a program of ours. Conditions: the arguments read as they are given. -/
import Derived.Test.YtidkloialdageaaGreatDoorXTs
import Derived.Test.YtidkloialdageaaGreatDoorXM2
import Derived.Test.YtidkloialdageaaGreatDoorXW1
namespace Go.Sx
open Go Go.Proofs Go.Vm Rp
set_option linter.unusedVariables false
set_option linter.unusedSimpArgs false

variable {W W0 : CW} {K : List Nat}
theorem c17 {x0 v0_0_ v0_1_ x1 r} (h0 : Rd W0 [0] [v0_0_, v0_1_] x0) (hm : Vm.spec_RepoDrop x0 x1 = some r) : Q0 17 [.agg [v0_0_, v0_1_].toArray, vS x1] W0 fun Wf v => ∃ u0_0 u0_1, v = .tuple [.agg [u0_0, u0_1].toArray, vB r.2].toArray ∧ OwS Wf [31] [] [u0_0] r.1.Commits ∧ OwS Wf [32] [] [u0_1] r.1.Heads := by
 unfold Vm.spec_RepoDrop at hm
 obtain ⟨w0_0, w0_1, he0, h0_0, h0_1⟩ := Repo.split h0
 simp only [List.cons.injEq, and_true, true_and] at he0
 obtain ⟨rfl, rfl⟩ := he0
 refine CallR.of Tryz.func17 rfl rfl rfl rfl (sr (bo 2 rfl fun g1 W1 l1 b1 => ?_))
 have a2 := l1.o
 refine al 3 [.slice none 0 0, .slice none 0 0] fun g3 W3 l3 b3 => ?_
 have a4 := a2.n l3
 refine Nb rfl (ssr (la (b1.up l3) (ca hm (fun _ => p74 (Repo.rd (K := [0]) x0.Commits x0.Heads (h0_0.ul a4) (h0_1.ul a4))) fun z8 W10 hm l10 => ?_)))
 have a11 := a4.n l10
 have b12 := (b1.up l3).up l10
 refine Lw.r rfl (R.not rfl) (nl (cn hm (fun hm => ?_) fun hm => ?_))
 ·refine sr (Lw.r rfl (R.bd (zs := [.slice none 0 0, .slice none 0 0]) (cs := [.slice none 0 0, .slice none 0 0]) [] rfl rfl rfl bp_nil) (sta (b3.up l10) (oc_cons rfl (oc_cons rfl oc_nil)) fun W15 l15 b15 => ?_))
  have a16 := a11.t l15
  refine Nb rfl ?_
  cases hm
  exact Cw.ret (retA2 rfl b15 rfl (Res.mk a16 ⟨.slice none 0 0, .slice none 0 0, rfl, (owsN []).sub rfl rfl, (owsN []).sub rfl rfl⟩))
 ·refine sk (sr (la b12 (cr hm (fun _ => p75 (k0 := 4) (k1 := 5) (Repo.rd (K := [0]) x0.Commits x0.Heads (h0_0.ul a11) (h0_1.ul a11))) ?_)))
  rintro z20 _ W22 hm l22 ⟨v0_0_22, v0_1_22, rfl, f22_0, f22_1⟩
  have a23 := a11.n l22
  refine al 6 [.slice none 0 0, .slice none 0 0] fun g26 W26 l26 b26 => ?_
  have a27 := a23.n l26
  refine sta b26 (oc_cons (f22_0.up l26).oc (oc_cons (f22_1.up l26).oc oc_nil)) fun W32 l32 b32 => ?_
  have a33 := a27.t l32
  have o34 := (f22_0.up l26).up l32
  refine nl (sr (fl b32 rfl (Lw.r rfl (R.bd (zs := [.slice none 0 0, .slice none 0 0]) (cs := [v0_0_22, .slice none 0 0]) [(0, v0_0_22)] rfl rfl rfl (bp_cons o34.oc rfl bp_nil)) (al 7 [.slice none 0 0, .slice none 0 0] fun g38 W38 l38 b38 => ?_))))
  have a39 := a33.n l38
  refine sta b38 (oc_cons (o34.up l38).oc (oc_cons rfl oc_nil)) fun W45 l45 b45 => ?_
  have a46 := a39.t l45
  refine nl (ssr (Ni rfl (Cw.block ?_)))
  obtain ⟨K61, hK61, hm⟩ := jn_e hm
  refine Cw.loop 18 42 [8] (fun m l w => ∃ y52 y53 y56 v54 v57 W60, CW.w W60 = w ∧ Le [7, 8] W45 W60 ∧ l = [vI y52] ∧ Ow W60 4 [] [v54] y53 ∧ Ow W60 8 [] [v57] y56 ∧ Bx W60 7 g38 [v54, v57] ∧ Vm.spec_RepoDrop_l1 x0 x1 K61 m y52 y53 y56 = some r) _ ⟨0, z20.Commits, ([] : List Head), v0_0_22, .slice none 0 0, W45, rfl, Le.refl _ _, rfl, ((o34.up l38).up l45), owN 8 [], b45, hm⟩ ?_
  rintro (_ | m62) _ _ σ ⟨y52, y53, y56, v54, v57, W60, rfl, l60, rfl, o55, o58, b59, hm⟩
  ·cases hm
  unfold Vm.spec_RepoDrop_l1 at hm
  have a63 := a46.t l60
  have b65 := (((((b12.up l22).up l26).up l32).up l38).up l45).up l60
  refine ssr ?_
  have s68 := h0_1.ul a63
  refine mi rfl (fl b65 rfl (Lw.ln x0.Heads s68 rfl (Lw.lt rfl (nl (cn hm (fun hm => ?_) fun hm => ?_)))))
  ·refine sk ?_
   obtain ⟨K78, hK78, hm⟩ := jn_e hm
   refine Cw.join 25 42 [] (fun l w => ∃ y70 y73 v71 v74 W77, CW.w W77 = w ∧ Le [7, 8] W60 W77 ∧ l = [] ∧ Ow W77 4 [] [v71] y70 ∧ Ow W77 8 [] [v74] y73 ∧ Bx W77 7 g38 [v71, v74] ∧ K78 y70 y73 = some r) ?_ ?_
   ·rintro _ _ σ ⟨y70, y73, v71, v74, W77, rfl, l77, rfl, o72, o75, b76, hm⟩
    rw [hK78] at hm
    exact rg (mi rfl (Lw.add rfl (Ni rfl ((agm) ⟨w64 (y52 + 1), y70, y73, v71, v74, W77, rfl, (l60.j l77).w, rfl, o72, o75, b76, hm⟩))))
   ·refine Cw.block (sr (fl b65 rfl (mi rfl ?_)))
    obtain ⟨u84, e85, hm⟩ := ob hm
    refine Lw.r rfl (R.ix (α := Head) s68 e85 rfl rfl rfl) (Lw.fa rfl (Lw.r rfl (R.ld rfl rfl (Head.at0 (s68.at_ e85)).str) (ms rfl (Lw.sne rfl (nl (cn hm (fun hm => ?_) fun hm => ?_))))))
    ·refine Cw.draw [8] [(0, 0), (1, 1), (2, 0), (3, 1), (4, 0), (5, 0), (6, 1), (7, 2), (8, 2), (9, 0), (10, 3)] mixed (by kernel_rfl) fun W87 l87 => ?_
     have a88 := a63.n l87
     refine Dfl (b59.up l87) rfl rfl rfl (Dfl (b65.up l87) rfl rfl rfl (Di rfl ?_))
     obtain ⟨u96, e97, hm⟩ := ob hm
     refine Mw.p rfl rfl (fun _ => R.ix (α := Head) (h0_1.ul a88) e97 rfl rfl rfl) ?_
     obtain ⟨x99, c100, _, r101⟩ := ((h0_1.ul a88).at_ e97).cells
     obtain rfl := Head.split r101
     refine Mw.q rfl rfl (fun _ c => R.lda (cl_cells ((h0_1.ul a88).at_ e97).1 rfl c100 c) rfl rfl) (Mw.t rfl rfl (T.bs 9 [.agg [vS u96.Name, vI u96.At].toArray] (cs := [vS u96.Name, vI u96.At]) rfl rfl (bsA rfl)) ?_)
     rintro _ _ ⟨g102, W102, rfl, rfl, l102, b102⟩
     refine m0 l102 fun d102 => ?_
     obtain ⟨q111, e112, hm⟩ := ob hm
     refine Mw.t rfl rfl (T.app1S (α := Head) (K' := []) ((o58.up l87).up l102) b102 (Head.rd (K := []) u96.Name u96.At) rfl rfl e112) ?_
     rintro v113 _ ⟨W113, rfl, l113, o113⟩
     refine mc d102 l113 fun d113 => Df rfl (Mw.lu rfl (T.st (j := 1) (v := v113) (((b59.up l87).up l102).up l113) rfl rfl o113.oc rfl rfl) ?_)
     rintro _ _ ⟨W122, rfl, l122, b122⟩
     exact Mw.nil ((ag) ⟨y53, q111, v54, v113, W122, rfl, (((l87.j l102).j l113).j l122).w, rfl, ((((o55.up l87).up l102).up l113).up l122), (o113.up l122), b122, hm⟩)
    ·exact sk ((ag) ⟨y53, y56, v54, v57, W60, rfl, Le.refl _ _, rfl, o55, o58, b59, hm⟩)
  ·refine Cw.exit ?_
   rw [hK61] at hm
   refine Cw.seq (Cw.draw [3] [(0, 1), (1, 0), (2, 1), (3, 0), (4, 0), (5, 1), (6, 0), (7, 0), (8, 2), (9, 0)] mixed (by kernel_rfl) fun W131 l131 => ?_)
   have a132 := a63.n l131
   have o135 := o58.up l131
   refine Mw.q rfl rfl (fun _ c => R.lda (cs := [v54, v57]) ((b59.up l131).clcs rfl c) rfl rfl) (Dfl (b59.up l131) rfl rfl rfl (Mw.p rfl rfl (fun _ => lenR (xs := y56) o135.rd rfl) (Dfl (b65.up l131) rfl rfl rfl (Mw.p rfl rfl (fun _ => lenR (xs := x0.Heads) (h0_1.ul a132) rfl) (Mw.p rfl rfl (fun _ => R.lt rfl rfl) (Mw.tu rfl (T.sta (vs := [v54, v57]) ((((((((b3.up l10).up l22).up l26).up l32).up l38).up l45).up l60).up l131) rfl rfl (oc_cons (o55.up l131).oc (oc_cons o135.oc oc_nil)) rfl rfl) ?_))))))
   rintro _ _ ⟨W141, rfl, l141, b141⟩
   have a142 := a132.t l141
   refine m0 l141 fun d141 => Hb rfl (Mw.nil ?_)
   obtain ⟨W149, ew149, l149, o149⟩ := ((o55.up l131).up l141).dyeO 31
   have a150 := a142.t l149
   obtain ⟨W157, ew157, l157, o157⟩ := ((o135.up l141).up l149).dyeO 32
   have a158 := a150.t l157
   cases hm
   rw [← ew157.trans (ew149)]
   exact Cw.ret (retA2 rfl ((b141.up l149).up l157) rfl (Res.mk a158 ⟨v54, v57, rfl, (o149.up l157).s, o157.s⟩))

theorem p17 {x0 v0_0_ v0_1_ x1 k0 k1 r} (h0 : Rd W K [v0_0_, v0_1_] x0) (hm : Vm.spec_RepoDrop x0 x1 = some r) : Q1 17 [.agg [v0_0_, v0_1_].toArray, vS x1] W [] fun W' v => ∃ u0_0 u0_1, v = .tuple [.agg [u0_0, u0_1].toArray, vB r.2].toArray ∧ Ow W' k0 [] [u0_0] r.1.Commits ∧ Ow W' k1 [] [u0_1] r.1.Heads :=
 CallR.adJ (J := []) (fun c => bif Nat.beq c 0 then 0 else bif Nat.beq c 31 then k0 else bif Nat.beq c 32 then k1 else 0) (c17 (h0.view _) hm) fun _ _ ⟨u0_0, u0_1, e, f0, f1⟩ => ⟨u0_0, u0_1, e, f0.one1.backN rfl, f1.one1.backN rfl⟩

end Go.Sx
