/- Walks: each function answers as its model, printed by a program of ours. Conditions: the arguments read as they are given. -/
import Derived.Test.YtkfeiopifiejgaaDoorXTs
import Derived.Test.YtkfeiopifiejgaaDoorXMd
namespace Go.Sx
open Go Go.Proofs Go.Vm Rp
set_option linter.unusedVariables false
set_option linter.unusedSimpArgs false

variable {W W0 : CW} {K : List Nat}
theorem c107 {x0 v0_ x1 r} (h0 : Rd W0 [0] [v0_] x0) (hm : Vm.laws_szIntS x0 x1 = some r) : Q0 107 [v0_, vI x1] W0 fun Wf v => v = vI r := by
 unfold Vm.laws_szIntS at hm
 refine CallR.of Tryd.func107 rfl rfl rfl rfl (sr (Ni rfl (sr (mi rfl (mv v0_ rfl (Lw.ln x0 h0 rfl (Lw.sub rfl (Ni rfl (ssr (mi rfl (Lw.lt rfl (nl (cn hm (fun hm => ?_) fun hm => ?_)))))))))))))
 ·exact sr (Ni rfl (.ret (rt hm (Le.refl _ _))))
 ·exact sk (sr (mi rfl (Ni rfl (.ret (rt hm (Le.refl _ _))))))

theorem p107 {x0 v0_ x1 r} (h0 : Rd W K [v0_] x0) (hm : Vm.laws_szIntS x0 x1 = some r) : Q1 107 [v0_, vI x1] W [] fun W' v => v = vI r :=
 (c107 (h0.view _) hm).ad (fk 0) fun _ _ e => e

theorem c97 {x0 v0_ x1 r} (h0 : Rd W0 [0] [v0_] x0) (hm : Vm.laws_szStringS x0 x1 = some r) : Q0 97 [v0_, vI x1] W0 fun Wf v => v = vI r := by
 unfold Vm.laws_szStringS at hm
 refine CallR.of Tryd.func97 rfl rfl rfl rfl (sr (Ni rfl (sr (mi rfl (mv v0_ rfl (Lw.ln x0 h0 rfl (Lw.sub rfl (Ni rfl (ssr (mi rfl (Lw.lt rfl (nl (cn hm (fun hm => ?_) fun hm => ?_)))))))))))))
 ·exact sr (Ni rfl (.ret (rt hm (Le.refl _ _))))
 ·refine sk (ssr (Ni rfl (Cw.block ?_)))
  obtain ⟨K6, hK6, hm⟩ := jn_e hm
  refine Cw.loop 12 26 [1, 4, 5] (fun m l w => ∃ y2 y3 y4 W5, CW.w W5 = w ∧ Le [] W0 W5 ∧ l = [vI y2, vI y3, vI y4] ∧ Vm.laws_szStringS_l1 x0 K6 m y2 y3 y4 = some r) _ ⟨w64 (x1 - (x0.length : Int)), 0, 0, W0, rfl, Le.refl _ _, rfl, hm⟩ ?_
  rintro (_ | m7) _ _ σ ⟨y2, y3, y4, W5, rfl, l5, rfl, hm⟩
  ·cases hm
  unfold Vm.laws_szStringS_l1 at hm
  have a8 := l5.o
  refine ssr ?_
  have s9 := h0.ul a8
  refine mi rfl (mv v0_ rfl (Lw.ln x0 s9 rfl (Lw.lt rfl (nl (cn hm (fun hm => ?_) fun hm => ?_)))))
  ·refine sk (Cw.seq (Cw.block (sr (mi rfl (mv v0_ rfl (mi rfl ?_))))))
   obtain ⟨u11, e12, hm⟩ := ob hm
   refine Lw.r rfl (R.ix (α := Str) s9 e12 rfl rfl rfl) (Lw.r rfl (R.ld rfl rfl (s9.at_ e12).str) (Lw.r rfl (R.lenS rfl) (Lw.sub rfl (Ni rfl (sr (mi rfl (Lw.lt rfl (nl (cn hm (fun hm => ?_) fun hm => ?_)))))))))
   ·exact sr (Ni rfl (.ret (rt hm a8)))
   ·exact sk (rg (mi rfl (Lw.add rfl (Ni rfl ((agm) ⟨w64 (y2 - (u11.length : Int)), y3, w64 (y4 + 1), W5, rfl, l5, rfl, hm⟩)))))
  ·refine Cw.exit ?_
   rw [hK6] at hm
   exact sr (mi rfl (Ni rfl (.ret (rt hm a8))))

theorem p97 {x0 v0_ x1 r} (h0 : Rd W K [v0_] x0) (hm : Vm.laws_szStringS x0 x1 = some r) : Q1 97 [v0_, vI x1] W [] fun W' v => v = vI r :=
 (c97 (h0.view _) hm).ad (fk 0) fun _ _ e => e

theorem c41 {x0 v0_1_ x1 r} (h0 : Rd W0 [0] [vS x0.Path, v0_1_] x0) (hm : Vm.laws_szFile x0 x1 = some r) : Q0 41 [.agg [vS x0.Path, v0_1_].toArray, vI x1] W0 fun Wf v => v = vI r := by
 unfold Vm.laws_szFile at hm
 obtain ⟨w0_0, he0, h0_1⟩ := File.split h0
 simp only [List.cons.injEq, and_true, true_and] at he0
 obtain rfl := he0
 refine CallR.of Tryd.func41 rfl rfl rfl rfl (sr (bo 2 rfl fun g1 W1 l1 b1 => ?_))
 have a2 := l1.o
 refine Ni rfl (sr (mi rfl (fl b1 rfl (Lw.r rfl (R.lenS rfl) (Lw.sub rfl (Ni rfl (ssr (mi rfl (Lw.lt rfl (nl (cn hm (fun hm => ?_) fun hm => ?_)))))))))))
 ·exact sr (Ni rfl (.ret (rt hm a2)))
 ·refine sk (sr (fl b1 rfl (mi rfl (ca hm (fun _ => p97 (h0_1.ul a2)) fun z5 W7 hm l7 => ?_))))
  have a8 := a2.n l7
  refine Ni rfl (ssr (mi rfl (Lw.lt rfl (nl (cn hm (fun hm => ?_) fun hm => ?_)))))
  ·exact sr (Ni rfl (.ret (rt hm a8)))
  ·exact sk (sr (mi rfl (Ni rfl (.ret (rt hm a8)))))

theorem p41 {x0 v0_1_ x1 r} (h0 : Rd W K [vS x0.Path, v0_1_] x0) (hm : Vm.laws_szFile x0 x1 = some r) : Q1 41 [.agg [vS x0.Path, v0_1_].toArray, vI x1] W [] fun W' v => v = vI r :=
 (c41 (h0.view _) hm).ad (fk 0) fun _ _ e => e

theorem c9 {x0 v0_ x1 r} (h0 : Rd W0 [0] [v0_] x0) (hm : Vm.laws_szFileS x0 x1 = some r) : Q0 9 [v0_, vI x1] W0 fun Wf v => v = vI r := by
 unfold Vm.laws_szFileS at hm
 refine CallR.of Tryd.func9 rfl rfl rfl rfl (sr (Ni rfl (sr (mi rfl (mv v0_ rfl (Lw.ln x0 h0 rfl (Lw.sub rfl (Ni rfl (ssr (mi rfl (Lw.lt rfl (nl (cn hm (fun hm => ?_) fun hm => ?_)))))))))))))
 ·exact sr (Ni rfl (.ret (rt hm (Le.refl _ _))))
 ·refine sk (ssr (Ni rfl (Cw.block ?_)))
  obtain ⟨K6, hK6, hm⟩ := jn_e hm
  refine Cw.loop 12 25 [1, 4, 5] (fun m l w => ∃ y2 y3 y4 W5, CW.w W5 = w ∧ Le [] W0 W5 ∧ l = [vI y2, vI y3, vI y4] ∧ Vm.laws_szFileS_l1 x0 K6 m y2 y3 y4 = some r) _ ⟨w64 (x1 - (x0.length : Int)), 0, 0, W0, rfl, Le.refl _ _, rfl, hm⟩ ?_
  rintro (_ | m7) _ _ σ ⟨y2, y3, y4, W5, rfl, l5, rfl, hm⟩
  ·cases hm
  unfold Vm.laws_szFileS_l1 at hm
  have a8 := l5.o
  refine ssr ?_
  have s9 := h0.ul a8
  refine mi rfl (mv v0_ rfl (Lw.ln x0 s9 rfl (Lw.lt rfl (nl (cn hm (fun hm => ?_) fun hm => ?_)))))
  ·refine sk (Cw.seq (Cw.block (sr (mv v0_ rfl (mi rfl ?_)))))
   obtain ⟨u11, e12, hm⟩ := ob hm
   refine Lw.r rfl (R.ix (α := File) s9 e12 rfl rfl rfl) ?_
   obtain ⟨x13, c14, _, r15⟩ := (s9.at_ e12).cells
   obtain ⟨v16, rfl, r17⟩ := File.split r15
   refine Lw.r rfl (R.lda c14 rfl rfl) (mi rfl (ca hm (fun _ => p41 (File.rd (K := [0]) u11.Path u11.Text r17)) fun z18 W20 hm l20 => ?_))
   have a21 := a8.n l20
   refine Ni rfl (sr (mi rfl (Lw.lt rfl (nl (cn hm (fun hm => ?_) fun hm => ?_)))))
   ·exact sr (Ni rfl (.ret (rt hm a21)))
   ·exact sk (rg (mi rfl (Lw.add rfl (Ni rfl ((agm) ⟨z18, y3, w64 (y4 + 1), W20, rfl, (l5.j l20).w, rfl, hm⟩)))))
  ·refine Cw.exit ?_
   rw [hK6] at hm
   exact sr (mi rfl (Ni rfl (.ret (rt hm a8))))

theorem p9 {x0 v0_ x1 r} (h0 : Rd W K [v0_] x0) (hm : Vm.laws_szFileS x0 x1 = some r) : Q1 9 [v0_, vI x1] W [] fun W' v => v = vI r :=
 (c9 (h0.view _) hm).ad (fk 0) fun _ _ e => e

theorem c61 {x0 v0_0_ v0_2_ x1 r} (h0 : Rd W0 [0] [v0_0_, vS x0.Who, v0_2_] x0) (hm : Vm.laws_szCommit x0 x1 = some r) : Q0 61 [.agg [v0_0_, vS x0.Who, v0_2_].toArray, vI x1] W0 fun Wf v => v = vI r := by
 unfold Vm.laws_szCommit at hm
 obtain ⟨w0_0, w0_1, he0, h0_0, h0_2⟩ := Commit.split h0
 simp only [List.cons.injEq, and_true, true_and] at he0
 obtain ⟨rfl, rfl⟩ := he0
 refine CallR.of Tryd.func61 rfl rfl rfl rfl (sr (bo 2 rfl fun g1 W1 l1 b1 => ?_))
 have a2 := l1.o
 refine Ni rfl (sr (fl b1 rfl (mi rfl (ca hm (fun _ => p107 (h0_0.ul a2)) fun z4 W6 hm l6 => ?_))))
 have a7 := a2.n l6
 refine Ni rfl (ssr (mi rfl (Lw.lt rfl (nl (cn hm (fun hm => ?_) fun hm => ?_)))))
 ·exact sr (Ni rfl (.ret (rt hm a7)))
 ·refine sk (sr (mi rfl (fl (b1.up l6) rfl (Lw.r rfl (R.lenS rfl) (Lw.sub rfl (Ni rfl (ssr (mi rfl (Lw.lt rfl (nl (cn hm (fun hm => ?_) fun hm => ?_)))))))))))
  ·exact sr (Ni rfl (.ret (rt hm a7)))
  ·refine sk (sr (fl (b1.up l6) rfl (mi rfl (ca hm (fun _ => p9 (h0_2.ul a7)) fun z12 W14 hm l14 => ?_))))
   have a15 := a7.n l14
   refine Ni rfl (ssr (mi rfl (Lw.lt rfl (nl (cn hm (fun hm => ?_) fun hm => ?_)))))
   ·exact sr (Ni rfl (.ret (rt hm a15)))
   ·exact sk (sr (mi rfl (Ni rfl (.ret (rt hm a15)))))

theorem p61 {x0 v0_0_ v0_2_ x1 r} (h0 : Rd W K [v0_0_, vS x0.Who, v0_2_] x0) (hm : Vm.laws_szCommit x0 x1 = some r) : Q1 61 [.agg [v0_0_, vS x0.Who, v0_2_].toArray, vI x1] W [] fun W' v => v = vI r :=
 (c61 (h0.view _) hm).ad (fk 0) fun _ _ e => e

theorem c19 {x0 v0_ x1 r} (h0 : Rd W0 [0] [v0_] x0) (hm : Vm.laws_szCommitS x0 x1 = some r) : Q0 19 [v0_, vI x1] W0 fun Wf v => v = vI r := by
 unfold Vm.laws_szCommitS at hm
 refine CallR.of Tryd.func19 rfl rfl rfl rfl (sr (Ni rfl (sr (mi rfl (mv v0_ rfl (Lw.ln x0 h0 rfl (Lw.sub rfl (Ni rfl (ssr (mi rfl (Lw.lt rfl (nl (cn hm (fun hm => ?_) fun hm => ?_)))))))))))))
 ·exact sr (Ni rfl (.ret (rt hm (Le.refl _ _))))
 ·refine sk (ssr (Ni rfl (Cw.block ?_)))
  obtain ⟨K6, hK6, hm⟩ := jn_e hm
  refine Cw.loop 12 25 [1, 4, 5] (fun m l w => ∃ y2 y3 y4 W5, CW.w W5 = w ∧ Le [] W0 W5 ∧ l = [vI y2, vI y3, vI y4] ∧ Vm.laws_szCommitS_l1 x0 K6 m y2 y3 y4 = some r) _ ⟨w64 (x1 - (x0.length : Int)), 0, 0, W0, rfl, Le.refl _ _, rfl, hm⟩ ?_
  rintro (_ | m7) _ _ σ ⟨y2, y3, y4, W5, rfl, l5, rfl, hm⟩
  ·cases hm
  unfold Vm.laws_szCommitS_l1 at hm
  have a8 := l5.o
  refine ssr ?_
  have s9 := h0.ul a8
  refine mi rfl (mv v0_ rfl (Lw.ln x0 s9 rfl (Lw.lt rfl (nl (cn hm (fun hm => ?_) fun hm => ?_)))))
  ·refine sk (Cw.seq (Cw.block (sr (mv v0_ rfl (mi rfl ?_)))))
   obtain ⟨u11, e12, hm⟩ := ob hm
   refine Lw.r rfl (R.ix (α := Commit) s9 e12 rfl rfl rfl) ?_
   obtain ⟨x13, c14, _, r15⟩ := (s9.at_ e12).cells
   obtain ⟨v16, v18, rfl, r17, r19⟩ := Commit.split r15
   refine Lw.r rfl (R.lda c14 rfl rfl) (mi rfl (ca hm (fun _ => p61 (Commit.rd (K := [0]) u11.Parents u11.Who u11.Tree r17 r19)) fun z20 W22 hm l22 => ?_))
   have a23 := a8.n l22
   refine Ni rfl (sr (mi rfl (Lw.lt rfl (nl (cn hm (fun hm => ?_) fun hm => ?_)))))
   ·exact sr (Ni rfl (.ret (rt hm a23)))
   ·exact sk (rg (mi rfl (Lw.add rfl (Ni rfl ((agm) ⟨z20, y3, w64 (y4 + 1), W22, rfl, (l5.j l22).w, rfl, hm⟩)))))
  ·refine Cw.exit ?_
   rw [hK6] at hm
   exact sr (mi rfl (Ni rfl (.ret (rt hm a8))))

theorem p19 {x0 v0_ x1 r} (h0 : Rd W K [v0_] x0) (hm : Vm.laws_szCommitS x0 x1 = some r) : Q1 19 [v0_, vI x1] W [] fun W' v => v = vI r :=
 (c19 (h0.view _) hm).ad (fk 0) fun _ _ e => e

theorem c96 {x0 x1 r} (h0 : Rd W0 [0] [vS x0.Name, vI x0.At] x0) (hm : Vm.laws_szHead x0 x1 = some r) : Q0 96 [.agg [vS x0.Name, vI x0.At].toArray, vI x1] W0 fun Wf v => v = vI r := by
 unfold Vm.laws_szHead at hm
 refine CallR.of Tryd.func96 rfl rfl rfl rfl (sr (bo 2 rfl fun g1 W1 l1 b1 => ?_))
 have a2 := l1.o
 refine Ni rfl (sr (mi rfl (fl b1 rfl (Lw.r rfl (R.lenS rfl) (Lw.sub rfl (Ni rfl (ssr (mi rfl (Lw.lt rfl (nl (cn hm (fun hm => ?_) fun hm => ?_)))))))))))
 ·exact sr (Ni rfl (.ret (rt hm a2)))
 ·exact sk (sr (mi rfl (Ni rfl (.ret (rt hm a2)))))

theorem p96 {x0 x1 r} (h0 : Rd W K [vS x0.Name, vI x0.At] x0) (hm : Vm.laws_szHead x0 x1 = some r) : Q1 96 [.agg [vS x0.Name, vI x0.At].toArray, vI x1] W [] fun W' v => v = vI r :=
 (c96 (h0.view _) hm).ad (fk 0) fun _ _ e => e

theorem c40 {x0 v0_ x1 r} (h0 : Rd W0 [0] [v0_] x0) (hm : Vm.laws_szHeadS x0 x1 = some r) : Q0 40 [v0_, vI x1] W0 fun Wf v => v = vI r := by
 unfold Vm.laws_szHeadS at hm
 refine CallR.of Tryd.func40 rfl rfl rfl rfl (sr (Ni rfl (sr (mi rfl (mv v0_ rfl (Lw.ln x0 h0 rfl (Lw.sub rfl (Ni rfl (ssr (mi rfl (Lw.lt rfl (nl (cn hm (fun hm => ?_) fun hm => ?_)))))))))))))
 ·exact sr (Ni rfl (.ret (rt hm (Le.refl _ _))))
 ·refine sk (ssr (Ni rfl (Cw.block ?_)))
  obtain ⟨K6, hK6, hm⟩ := jn_e hm
  refine Cw.loop 12 25 [1, 4, 5] (fun m l w => ∃ y2 y3 y4 W5, CW.w W5 = w ∧ Le [] W0 W5 ∧ l = [vI y2, vI y3, vI y4] ∧ Vm.laws_szHeadS_l1 x0 K6 m y2 y3 y4 = some r) _ ⟨w64 (x1 - (x0.length : Int)), 0, 0, W0, rfl, Le.refl _ _, rfl, hm⟩ ?_
  rintro (_ | m7) _ _ σ ⟨y2, y3, y4, W5, rfl, l5, rfl, hm⟩
  ·cases hm
  unfold Vm.laws_szHeadS_l1 at hm
  have a8 := l5.o
  refine ssr ?_
  have s9 := h0.ul a8
  refine mi rfl (mv v0_ rfl (Lw.ln x0 s9 rfl (Lw.lt rfl (nl (cn hm (fun hm => ?_) fun hm => ?_)))))
  ·refine sk (Cw.seq (Cw.block (sr (mv v0_ rfl (mi rfl ?_)))))
   obtain ⟨u11, e12, hm⟩ := ob hm
   refine Lw.r rfl (R.ix (α := Head) s9 e12 rfl rfl rfl) ?_
   obtain ⟨x13, c14, _, r15⟩ := (s9.at_ e12).cells
   obtain rfl := Head.split r15
   refine Lw.r rfl (R.lda c14 rfl rfl) (mi rfl (ca hm (fun _ => p96 (Head.rd (K := [0]) u11.Name u11.At )) fun z16 W18 hm l18 => ?_))
   have a19 := a8.n l18
   refine Ni rfl (sr (mi rfl (Lw.lt rfl (nl (cn hm (fun hm => ?_) fun hm => ?_)))))
   ·exact sr (Ni rfl (.ret (rt hm a19)))
   ·exact sk (rg (mi rfl (Lw.add rfl (Ni rfl ((agm) ⟨z16, y3, w64 (y4 + 1), W18, rfl, (l5.j l18).w, rfl, hm⟩)))))
  ·refine Cw.exit ?_
   rw [hK6] at hm
   exact sr (mi rfl (Ni rfl (.ret (rt hm a8))))

theorem p40 {x0 v0_ x1 r} (h0 : Rd W K [v0_] x0) (hm : Vm.laws_szHeadS x0 x1 = some r) : Q1 40 [v0_, vI x1] W [] fun W' v => v = vI r :=
 (c40 (h0.view _) hm).ad (fk 0) fun _ _ e => e

theorem c8 {x0 v0_0_ v0_1_ x1 r} (h0 : Rd W0 [0] [v0_0_, v0_1_] x0) (hm : Vm.laws_szRepo x0 x1 = some r) : Q0 8 [.agg [v0_0_, v0_1_].toArray, vI x1] W0 fun Wf v => v = vI r := by
 unfold Vm.laws_szRepo at hm
 obtain ⟨w0_0, w0_1, he0, h0_0, h0_1⟩ := Repo.split h0
 simp only [List.cons.injEq, and_true, true_and] at he0
 obtain ⟨rfl, rfl⟩ := he0
 refine CallR.of Tryd.func8 rfl rfl rfl rfl (sr (bo 2 rfl fun g1 W1 l1 b1 => ?_))
 have a2 := l1.o
 refine Ni rfl (sr (fl b1 rfl (mi rfl (ca hm (fun _ => p19 (h0_0.ul a2)) fun z4 W6 hm l6 => ?_))))
 have a7 := a2.n l6
 refine Ni rfl (ssr (mi rfl (Lw.lt rfl (nl (cn hm (fun hm => ?_) fun hm => ?_)))))
 ·exact sr (Ni rfl (.ret (rt hm a7)))
 ·refine sk (sr (fl (b1.up l6) rfl (mi rfl (ca hm (fun _ => p40 (h0_1.ul a7)) fun z11 W13 hm l13 => ?_))))
  have a14 := a7.n l13
  refine Ni rfl (ssr (mi rfl (Lw.lt rfl (nl (cn hm (fun hm => ?_) fun hm => ?_)))))
  ·exact sr (Ni rfl (.ret (rt hm a14)))
  ·exact sk (sr (mi rfl (Ni rfl (.ret (rt hm a14)))))

theorem p8 {x0 v0_0_ v0_1_ x1 r} (h0 : Rd W K [v0_0_, v0_1_] x0) (hm : Vm.laws_szRepo x0 x1 = some r) : Q1 8 [.agg [v0_0_, v0_1_].toArray, vI x1] W [] fun W' v => v = vI r :=
 (c8 (h0.view _) hm).ad (fk 0) fun _ _ e => e

theorem c21 {x0 v0_ r} (h0 : Rd W0 [0] [v0_] x0) (hm : Vm.laws_toIntS x0 = some r) : Q0 21 [v0_] W0 fun Wf v => ∃ u0, v = u0 ∧ OwS Wf LL [] [u0] r := by
 unfold Vm.laws_toIntS at hm
 refine CallR.of Tryd.func21 rfl rfl rfl rfl (sr (Nv (.slice none 0 0) rfl (sr (mv v0_ rfl (Lw.ln x0 h0 rfl ?_)))))
 obtain ⟨q1, e2, hm⟩ := ob hm
 refine Lw.t rfl (T.mk (α := Int) 2 [] (n := (x0.length : Int)) rfl rfl e2) ?_
 rintro v3 _ ⟨W3, rfl, l3, o3⟩
 have a4 := l3.o
 refine Nv v3 rfl (ssr (Ni rfl (Cw.block ?_)))
 obtain ⟨K9, hK9, hm⟩ := jn_e hm
 refine Cw.loop 8 20 [4] (fun m l w => ∃ y5 y6 W8, CW.w W8 = w ∧ Le [2] W3 W8 ∧ l = [vI y5] ∧ Ow W8 2 [] [v3] y6 ∧ Vm.laws_toIntS_l1 x0 K9 m y5 y6 = some r) _ ⟨0, q1, W3, rfl, Le.refl _ _, rfl, o3, hm⟩ ?_
 rintro (_ | m10) _ _ σ ⟨y5, y6, W8, rfl, l8, rfl, o7, hm⟩
 ·cases hm
 unfold Vm.laws_toIntS_l1 at hm
 have a11 := a4.t l8
 refine ssr (mi rfl (mv v0_ rfl (Lw.ln x0 (h0.ul a11) rfl (Lw.lt rfl (nl (cn hm (fun hm => ?_) fun hm => ?_))))))
 ·refine sk (Cw.seq (Cw.block (rg (mv v3 rfl (mi rfl (mv v0_ rfl (mi rfl ?_)))))))
  obtain ⟨u14, e15, hm⟩ := ob hm
  refine Lw.r rfl (R.ix (α := Int) (h0.ul a11) e15 rfl rfl rfl) (Lw.r rfl (R.ld rfl rfl ((h0.ul a11).at_ e15).int) ?_)
  obtain ⟨u16, e17, hm⟩ := ob hm
  refine Lw.r rfl (R.ix (α := Int) o7.rd e17 rfl rfl rfl) ?_
  obtain ⟨q19, e20, hm⟩ := ob hm
  refine Lw.u (T.stS (K' := []) o7 (rdI _) e20 rfl rfl rfl) ?_
  rintro _ _ ⟨W18, rfl, l18, o18⟩
  exact nl (rg (mi rfl (Lw.add rfl (Ni rfl ((agm) ⟨w64 (y5 + 1), q19, W18, rfl, (l8.j l18).w, rfl, o18, hm⟩)))))
 ·refine Cw.exit ?_
  rw [hK9] at hm
  refine sr (mv v3 rfl (Nv v3 rfl ?_))
  cases hm
  exact Cw.ret (ret1 rfl (Res.mk a11 ⟨v3, rfl, o7.s.sub rfl rfl⟩))

theorem p21 {x0 v0_ k0 r} (h0 : Rd W K [v0_] x0) (hm : Vm.laws_toIntS x0 = some r) : Q1 21 [v0_] W [] fun W' v => ∃ u0, v = u0 ∧ Ow W' k0 [] [u0] r :=
 (c21 (h0.view _) hm).ad (fk k0) fun _ _ ⟨u0, e, f0⟩ => ⟨u0, e, f0.back (fk_LL _)⟩

theorem c101 {x0 v0_ r} (h0 : Rd W0 [0] [v0_] x0) (hm : Vm.laws_toStringS x0 = some r) : Q0 101 [v0_] W0 fun Wf v => ∃ u0, v = u0 ∧ OwS Wf LL [] [u0] r := by
 unfold Vm.laws_toStringS at hm
 refine CallR.of Tryd.func101 rfl rfl rfl rfl (sr (Nv (.slice none 0 0) rfl (sr (mv v0_ rfl (Lw.ln x0 h0 rfl ?_)))))
 obtain ⟨q1, e2, hm⟩ := ob hm
 refine Lw.t rfl (T.mk (α := Str) 2 [] (n := (x0.length : Int)) rfl rfl e2) ?_
 rintro v3 _ ⟨W3, rfl, l3, o3⟩
 have a4 := l3.o
 refine Nv v3 rfl (ssr (Ni rfl (Cw.block ?_)))
 obtain ⟨K9, hK9, hm⟩ := jn_e hm
 refine Cw.loop 8 20 [4] (fun m l w => ∃ y5 y6 W8, CW.w W8 = w ∧ Le [2] W3 W8 ∧ l = [vI y5] ∧ Ow W8 2 [] [v3] y6 ∧ Vm.laws_toStringS_l1 x0 K9 m y5 y6 = some r) _ ⟨0, q1, W3, rfl, Le.refl _ _, rfl, o3, hm⟩ ?_
 rintro (_ | m10) _ _ σ ⟨y5, y6, W8, rfl, l8, rfl, o7, hm⟩
 ·cases hm
 unfold Vm.laws_toStringS_l1 at hm
 have a11 := a4.t l8
 refine ssr (mi rfl (mv v0_ rfl (Lw.ln x0 (h0.ul a11) rfl (Lw.lt rfl (nl (cn hm (fun hm => ?_) fun hm => ?_))))))
 ·refine sk (Cw.seq (Cw.block (rg (mv v3 rfl (mi rfl (mv v0_ rfl (mi rfl ?_)))))))
  obtain ⟨u14, e15, hm⟩ := ob hm
  refine Lw.r rfl (R.ix (α := Str) (h0.ul a11) e15 rfl rfl rfl) (Lw.r rfl (R.ld rfl rfl ((h0.ul a11).at_ e15).str) ?_)
  obtain ⟨u16, e17, hm⟩ := ob hm
  refine Lw.r rfl (R.ix (α := Str) o7.rd e17 rfl rfl rfl) ?_
  obtain ⟨q19, e20, hm⟩ := ob hm
  refine Lw.u (T.stS (K' := []) o7 (rdS _) e20 rfl rfl rfl) ?_
  rintro _ _ ⟨W18, rfl, l18, o18⟩
  exact nl (rg (mi rfl (Lw.add rfl (Ni rfl ((agm) ⟨w64 (y5 + 1), q19, W18, rfl, (l8.j l18).w, rfl, o18, hm⟩)))))
 ·refine Cw.exit ?_
  rw [hK9] at hm
  refine sr (mv v3 rfl (Nv v3 rfl ?_))
  cases hm
  exact Cw.ret (ret1 rfl (Res.mk a11 ⟨v3, rfl, o7.s.sub rfl rfl⟩))

theorem p101 {x0 v0_ k0 r} (h0 : Rd W K [v0_] x0) (hm : Vm.laws_toStringS x0 = some r) : Q1 101 [v0_] W [] fun W' v => ∃ u0, v = u0 ∧ Ow W' k0 [] [u0] r :=
 (c101 (h0.view _) hm).ad (fk k0) fun _ _ ⟨u0, e, f0⟩ => ⟨u0, e, f0.back (fk_LL _)⟩

theorem c48 {x0 v0_1_ r} (h0 : Rd W0 [0] [vS x0.Path, v0_1_] x0) (hm : Vm.laws_toFile x0 = some r) : Q0 48 [.agg [vS x0.Path, v0_1_].toArray] W0 fun Wf v => ∃ u0_1, v = .agg [vS r.Path, u0_1].toArray ∧ OwS Wf LL [] [u0_1] r.Text := by
 unfold Vm.laws_toFile at hm
 obtain ⟨w0_0, he0, h0_1⟩ := File.split h0
 simp only [List.cons.injEq, and_true, true_and] at he0
 obtain rfl := he0
 refine CallR.of Tryd.func48 rfl rfl rfl rfl (sr (bo 2 rfl fun g1 W1 l1 b1 => ?_))
 have a2 := l1.o
 refine al 3 [vS ([] : Str), .slice none 0 0] fun g3 W3 l3 b3 => ?_
 have a4 := a2.n l3
 refine nl (sr (al 4 [vS ([] : Str), .slice none 0 0] fun g6 W6 l6 b6 => ?_))
 have a7 := a4.n l6
 have b8 := (b1.up l3).up l6
 refine nl (sr (fl b8 rfl (Lw.fa rfl (Lw.u (T.st (j := 0) (v := vS x0.Path) b6 rfl rfl rfl rfl rfl) ?_))))
 rintro _ _ ⟨W10, rfl, l10, b10⟩
 have a11 := a7.t l10
 refine nl (sr (fl (b8.up l10) rfl (cr hm (fun _ => p101 (k0 := 5) (h0_1.ul a11)) ?_)))
 rintro z15 v0_17 W17 hm l17 ⟨_, rfl, f17_0⟩
 have a18 := a11.n l17
 refine Lw.fa rfl (Lw.u (T.st (j := 1) (v := v0_17) (b10.up l17) rfl rfl f17_0.oc rfl rfl) ?_)
 rintro _ _ ⟨W22, rfl, l22, b22⟩
 have a23 := a18.t l22
 refine nl (sr (la b22 (sta ((((b3.up l6).up l10).up l17).up l22) (oc_cons rfl (oc_cons (f17_0.up l22).oc oc_nil)) fun W27 l27 b27 => ?_)))
 have a28 := a23.t l27
 refine nl ?_
 cases hm
 exact Cw.ret (retA1 rfl b27 (Res.mk a28 ⟨v0_17, rfl, ((f17_0.up l22).up l27).s.sub rfl rfl⟩))

theorem p48 {x0 v0_1_ k0 r} (h0 : Rd W K [vS x0.Path, v0_1_] x0) (hm : Vm.laws_toFile x0 = some r) : Q1 48 [.agg [vS x0.Path, v0_1_].toArray] W [] fun W' v => ∃ u0_1, v = .agg [vS r.Path, u0_1].toArray ∧ Ow W' k0 [] [u0_1] r.Text :=
 (c48 (h0.view _) hm).ad (fk k0) fun _ _ ⟨u0_1, e, f0⟩ => ⟨u0_1, e, f0.back (fk_LL _)⟩

theorem c12 {x0 v0_ r} (h0 : Rd W0 [0] [v0_] x0) (hm : Vm.laws_toFileS x0 = some r) : Q0 12 [v0_] W0 fun Wf v => ∃ u0, v = u0 ∧ OwS Wf LL [] [u0] r := by
 unfold Vm.laws_toFileS at hm
 refine CallR.of Tryd.func12 rfl rfl rfl rfl (sr (Nv (.slice none 0 0) rfl (sr (mv v0_ rfl (Lw.ln x0 h0 rfl ?_)))))
 obtain ⟨q1, e2, hm⟩ := ob hm
 refine Lw.t rfl (T.mk (α := File) 2 [] (n := (x0.length : Int)) rfl rfl e2) ?_
 rintro v3 _ ⟨W3, rfl, l3, o3⟩
 have a4 := l3.o
 refine Nv v3 rfl (ssr (Ni rfl (Cw.block ?_)))
 obtain ⟨K9, hK9, hm⟩ := jn_e hm
 refine Cw.loop 8 21 [4] (fun m l w => ∃ y5 y6 W8, CW.w W8 = w ∧ Le [2, 3] W3 W8 ∧ l = [vI y5] ∧ Ow W8 2 [] [v3] y6 ∧ Vm.laws_toFileS_l1 x0 K9 m y5 y6 = some r) _ ⟨0, q1, W3, rfl, Le.refl _ _, rfl, o3, hm⟩ ?_
 rintro (_ | m10) _ _ σ ⟨y5, y6, W8, rfl, l8, rfl, o7, hm⟩
 ·cases hm
 unfold Vm.laws_toFileS_l1 at hm
 have a11 := a4.t l8
 refine ssr (mi rfl (mv v0_ rfl (Lw.ln x0 (h0.ul a11) rfl (Lw.lt rfl (nl (cn hm (fun hm => ?_) fun hm => ?_))))))
 ·refine sk (Cw.seq (Cw.block (rg (mv v3 rfl (mi rfl (mv v0_ rfl (mi rfl ?_)))))))
  obtain ⟨u14, e15, hm⟩ := ob hm
  refine Lw.r rfl (R.ix (α := File) (h0.ul a11) e15 rfl rfl rfl) ?_
  obtain ⟨x16, c17, _, r18⟩ := ((h0.ul a11).at_ e15).cells
  obtain ⟨v19, rfl, r20⟩ := File.split r18
  refine Lw.r rfl (R.lda c17 rfl rfl) (cr hm (fun _ => p48 (k0 := 3) (File.rd (K := [0]) u14.Path u14.Text r20)) ?_)
  rintro z21 _ W23 hm l23 ⟨v0_1_23, rfl, f23_0⟩
  obtain ⟨u26, e27, hm⟩ := ob hm
  refine Lw.r rfl (R.ix (α := File) (o7.up l23).rd e27 rfl rfl rfl) ?_
  obtain ⟨q29, e30, hm⟩ := ob hm
  refine Lw.u (T.stO (J := [3]) (o7.up l23) (File.own z21.Path z21.Text f23_0.s) e30 rfl rfl rfl) ?_
  rintro _ _ ⟨W28, rfl, l28, o28⟩
  exact nl (rg (mi rfl (Lw.add rfl (Ni rfl ((agm) ⟨w64 (y5 + 1), q29, W28, rfl, ((l8.j l23).j l28).w, rfl, o28, hm⟩)))))
 ·refine Cw.exit ?_
  rw [hK9] at hm
  refine sr (mv v3 rfl (Nv v3 rfl ?_))
  cases hm
  exact Cw.ret (ret1 rfl (Res.mk a11 ⟨v3, rfl, o7.s.sub rfl rfl⟩))

theorem p12 {x0 v0_ k0 r} (h0 : Rd W K [v0_] x0) (hm : Vm.laws_toFileS x0 = some r) : Q1 12 [v0_] W [] fun W' v => ∃ u0, v = u0 ∧ Ow W' k0 [] [u0] r :=
 (c12 (h0.view _) hm).ad (fk k0) fun _ _ ⟨u0, e, f0⟩ => ⟨u0, e, f0.back (fk_LL _)⟩

theorem c66 {x0 v0_0_ v0_2_ r} (h0 : Rd W0 [0] [v0_0_, vS x0.Who, v0_2_] x0) (hm : Vm.laws_toCommit x0 = some r) : Q0 66 [.agg [v0_0_, vS x0.Who, v0_2_].toArray] W0 fun Wf v => ∃ u0_0 u0_2, v = .agg [u0_0, vS r.Who, u0_2].toArray ∧ OwS Wf [31] [] [u0_0] r.Parents ∧ OwS Wf [32] [] [u0_2] r.Tree := by
 unfold Vm.laws_toCommit at hm
 obtain ⟨w0_0, w0_1, he0, h0_0, h0_2⟩ := Commit.split h0
 simp only [List.cons.injEq, and_true, true_and] at he0
 obtain ⟨rfl, rfl⟩ := he0
 refine CallR.of Tryd.func66 rfl rfl rfl rfl (sr (bo 2 rfl fun g1 W1 l1 b1 => ?_))
 have a2 := l1.o
 refine al 3 [.slice none 0 0, vS ([] : Str), .slice none 0 0] fun g3 W3 l3 b3 => ?_
 have a4 := a2.n l3
 refine nl (sr (al 4 [.slice none 0 0, vS ([] : Str), .slice none 0 0] fun g6 W6 l6 b6 => ?_))
 have a7 := a4.n l6
 have b8 := (b1.up l3).up l6
 refine nl (sr (fl b8 rfl (cr hm (fun _ => p21 (k0 := 5) (h0_0.ul a7)) ?_)))
 rintro z11 v0_13 W13 hm l13 ⟨_, rfl, f13_0⟩
 have a14 := a7.n l13
 refine Lw.fa rfl (Lw.u (T.st (j := 0) (v := v0_13) (b6.up l13) rfl rfl f13_0.oc rfl rfl) ?_)
 rintro _ _ ⟨W18, rfl, l18, b18⟩
 have a19 := a14.t l18
 have b21 := (b8.up l13).up l18
 refine nl (sr (fl b21 rfl (Lw.fa rfl (Lw.u (T.st (j := 1) (v := vS x0.Who) b18 rfl rfl rfl rfl rfl) ?_))))
 rintro _ _ ⟨W23, rfl, l23, b23⟩
 have a24 := a19.t l23
 refine nl (sr (fl (b21.up l23) rfl (cr hm (fun _ => p12 (k0 := 6) (h0_2.ul a24)) ?_)))
 rintro z29 v0_31 W31 hm l31 ⟨_, rfl, f31_0⟩
 have a32 := a24.n l31
 refine Lw.fa rfl (Lw.u (T.st (j := 2) (v := v0_31) (b23.up l31) rfl rfl f31_0.oc rfl rfl) ?_)
 rintro _ _ ⟨W37, rfl, l37, b37⟩
 have a38 := a32.t l37
 have o39 := (((f13_0.up l18).up l23).up l31).up l37
 refine nl (sr (la b37 (sta ((((((b3.up l6).up l13).up l18).up l23).up l31).up l37) (oc_cons o39.oc (oc_cons rfl (oc_cons (f31_0.up l37).oc oc_nil))) fun W43 l43 b43 => ?_)))
 have a44 := a38.t l43
 refine nl ?_
 obtain ⟨W49, ew49, l49, o49⟩ := (o39.up l43).dyeO 31
 have a50 := a44.t l49
 obtain ⟨W55, ew55, l55, o55⟩ := (((f31_0.up l37).up l43).up l49).dyeO 32
 have a56 := a50.t l55
 cases hm
 rw [← ew55.trans (ew49)]
 exact Cw.ret (retA1 rfl ((b43.up l49).up l55) (Res.mk a56 ⟨v0_13, v0_31, rfl, (o49.up l55).s, o55.s⟩))

theorem p66 {x0 v0_0_ v0_2_ k0 k1 r} (h0 : Rd W K [v0_0_, vS x0.Who, v0_2_] x0) (hm : Vm.laws_toCommit x0 = some r) : Q1 66 [.agg [v0_0_, vS x0.Who, v0_2_].toArray] W [] fun W' v => ∃ u0_0 u0_2, v = .agg [u0_0, vS r.Who, u0_2].toArray ∧ Ow W' k0 [] [u0_0] r.Parents ∧ Ow W' k1 [] [u0_2] r.Tree :=
 CallR.adJ (J := []) (fun c => bif Nat.beq c 0 then 0 else bif Nat.beq c 31 then k0 else bif Nat.beq c 32 then k1 else 0) (c66 (h0.view _) hm) fun _ _ ⟨u0_0, u0_2, e, f0, f1⟩ => ⟨u0_0, u0_2, e, f0.one1.backN rfl, f1.one1.backN rfl⟩

theorem c22 {x0 v0_ r} (h0 : Rd W0 [0] [v0_] x0) (hm : Vm.laws_toCommitS x0 = some r) : Q0 22 [v0_] W0 fun Wf v => ∃ u0, v = u0 ∧ OwS Wf LL [] [u0] r := by
 unfold Vm.laws_toCommitS at hm
 refine CallR.of Tryd.func22 rfl rfl rfl rfl (sr (Nv (.slice none 0 0) rfl (sr (mv v0_ rfl (Lw.ln x0 h0 rfl ?_)))))
 obtain ⟨q1, e2, hm⟩ := ob hm
 refine Lw.t rfl (T.mk (α := Commit) 2 [] (n := (x0.length : Int)) rfl rfl e2) ?_
 rintro v3 _ ⟨W3, rfl, l3, o3⟩
 have a4 := l3.o
 refine Nv v3 rfl (ssr (Ni rfl (Cw.block ?_)))
 obtain ⟨K9, hK9, hm⟩ := jn_e hm
 refine Cw.loop 8 21 [4] (fun m l w => ∃ y5 y6 W8, CW.w W8 = w ∧ Le [2, 3, 4] W3 W8 ∧ l = [vI y5] ∧ Ow W8 2 [] [v3] y6 ∧ Vm.laws_toCommitS_l1 x0 K9 m y5 y6 = some r) _ ⟨0, q1, W3, rfl, Le.refl _ _, rfl, o3, hm⟩ ?_
 rintro (_ | m10) _ _ σ ⟨y5, y6, W8, rfl, l8, rfl, o7, hm⟩
 ·cases hm
 unfold Vm.laws_toCommitS_l1 at hm
 have a11 := a4.t l8
 refine ssr (mi rfl (mv v0_ rfl (Lw.ln x0 (h0.ul a11) rfl (Lw.lt rfl (nl (cn hm (fun hm => ?_) fun hm => ?_))))))
 ·refine sk (Cw.seq (Cw.block (rg (mv v3 rfl (mi rfl (mv v0_ rfl (mi rfl ?_)))))))
  obtain ⟨u14, e15, hm⟩ := ob hm
  refine Lw.r rfl (R.ix (α := Commit) (h0.ul a11) e15 rfl rfl rfl) ?_
  obtain ⟨x16, c17, _, r18⟩ := ((h0.ul a11).at_ e15).cells
  obtain ⟨v19, v21, rfl, r20, r22⟩ := Commit.split r18
  refine Lw.r rfl (R.lda c17 rfl rfl) (cr hm (fun _ => p66 (k0 := 3) (k1 := 4) (Commit.rd (K := [0]) u14.Parents u14.Who u14.Tree r20 r22)) ?_)
  rintro z23 _ W25 hm l25 ⟨v0_0_25, v0_2_25, rfl, f25_0, f25_1⟩
  obtain ⟨u28, e29, hm⟩ := ob hm
  refine Lw.r rfl (R.ix (α := Commit) (o7.up l25).rd e29 rfl rfl rfl) ?_
  obtain ⟨q31, e32, hm⟩ := ob hm
  refine Lw.u (T.stO (J := [3, 4]) (o7.up l25) (Commit.own z23.Parents z23.Who z23.Tree f25_0.s f25_1.s) e32 rfl rfl rfl) ?_
  rintro _ _ ⟨W30, rfl, l30, o30⟩
  exact nl (rg (mi rfl (Lw.add rfl (Ni rfl ((agm) ⟨w64 (y5 + 1), q31, W30, rfl, ((l8.j l25).j l30).w, rfl, o30, hm⟩)))))
 ·refine Cw.exit ?_
  rw [hK9] at hm
  refine sr (mv v3 rfl (Nv v3 rfl ?_))
  cases hm
  exact Cw.ret (ret1 rfl (Res.mk a11 ⟨v3, rfl, o7.s.sub rfl rfl⟩))

theorem p22 {x0 v0_ k0 r} (h0 : Rd W K [v0_] x0) (hm : Vm.laws_toCommitS x0 = some r) : Q1 22 [v0_] W [] fun W' v => ∃ u0, v = u0 ∧ Ow W' k0 [] [u0] r :=
 (c22 (h0.view _) hm).ad (fk k0) fun _ _ ⟨u0, e, f0⟩ => ⟨u0, e, f0.back (fk_LL _)⟩

theorem c100 {x0 r} (h0 : Rd W0 [0] [vS x0.Name, vI x0.At] x0) (hm : Vm.laws_toHead x0 = some r) : Q0 100 [.agg [vS x0.Name, vI x0.At].toArray] W0 fun Wf v => v = .agg [vS r.Name, vI r.At].toArray := by
 unfold Vm.laws_toHead at hm
 refine CallR.of Tryd.func100 rfl rfl rfl rfl (sr (bo 2 rfl fun g1 W1 l1 b1 => ?_))
 have a2 := l1.o
 refine al 3 [vS ([] : Str), vI 0] fun g3 W3 l3 b3 => ?_
 have a4 := a2.n l3
 refine nl (sr (al 4 [vS ([] : Str), vI 0] fun g6 W6 l6 b6 => ?_))
 have a7 := a4.n l6
 have b8 := (b1.up l3).up l6
 refine nl (sr (fl b8 rfl (Lw.fa rfl (Lw.u (T.st (j := 0) (v := vS x0.Name) b6 rfl rfl rfl rfl rfl) ?_))))
 rintro _ _ ⟨W10, rfl, l10, b10⟩
 have a11 := a7.t l10
 refine nl (sr (fl (b8.up l10) rfl (Lw.fa rfl (Lw.u (T.st (j := 1) (v := vI x0.At) b10 rfl rfl rfl rfl rfl) ?_))))
 rintro _ _ ⟨W14, rfl, l14, b14⟩
 have a15 := a11.t l14
 refine nl (sr (la b14 (sta (((b3.up l6).up l10).up l14) (oc_cons rfl (oc_cons rfl oc_nil)) fun W18 l18 b18 => ?_)))
 have a19 := a15.t l18
 refine nl ?_
 cases hm
 exact Cw.ret (retA1 rfl b18 (Res.mk a19 rfl))

theorem p100 {x0 r} (h0 : Rd W K [vS x0.Name, vI x0.At] x0) (hm : Vm.laws_toHead x0 = some r) : Q1 100 [.agg [vS x0.Name, vI x0.At].toArray] W [] fun W' v => v = .agg [vS r.Name, vI r.At].toArray :=
 (c100 (h0.view _) hm).ad (fk 0) fun _ _ e => e

theorem c47 {x0 v0_ r} (h0 : Rd W0 [0] [v0_] x0) (hm : Vm.laws_toHeadS x0 = some r) : Q0 47 [v0_] W0 fun Wf v => ∃ u0, v = u0 ∧ OwS Wf LL [] [u0] r := by
 unfold Vm.laws_toHeadS at hm
 refine CallR.of Tryd.func47 rfl rfl rfl rfl (sr (Nv (.slice none 0 0) rfl (sr (mv v0_ rfl (Lw.ln x0 h0 rfl ?_)))))
 obtain ⟨q1, e2, hm⟩ := ob hm
 refine Lw.t rfl (T.mk (α := Head) 2 [] (n := (x0.length : Int)) rfl rfl e2) ?_
 rintro v3 _ ⟨W3, rfl, l3, o3⟩
 have a4 := l3.o
 refine Nv v3 rfl (ssr (Ni rfl (Cw.block ?_)))
 obtain ⟨K9, hK9, hm⟩ := jn_e hm
 refine Cw.loop 8 21 [4] (fun m l w => ∃ y5 y6 W8, CW.w W8 = w ∧ Le [2] W3 W8 ∧ l = [vI y5] ∧ Ow W8 2 [] [v3] y6 ∧ Vm.laws_toHeadS_l1 x0 K9 m y5 y6 = some r) _ ⟨0, q1, W3, rfl, Le.refl _ _, rfl, o3, hm⟩ ?_
 rintro (_ | m10) _ _ σ ⟨y5, y6, W8, rfl, l8, rfl, o7, hm⟩
 ·cases hm
 unfold Vm.laws_toHeadS_l1 at hm
 have a11 := a4.t l8
 refine ssr (mi rfl (mv v0_ rfl (Lw.ln x0 (h0.ul a11) rfl (Lw.lt rfl (nl (cn hm (fun hm => ?_) fun hm => ?_))))))
 ·refine sk (Cw.seq (Cw.block (rg (mv v3 rfl (mi rfl (mv v0_ rfl (mi rfl ?_)))))))
  obtain ⟨u14, e15, hm⟩ := ob hm
  refine Lw.r rfl (R.ix (α := Head) (h0.ul a11) e15 rfl rfl rfl) ?_
  obtain ⟨x16, c17, _, r18⟩ := ((h0.ul a11).at_ e15).cells
  obtain rfl := Head.split r18
  refine Lw.r rfl (R.lda c17 rfl rfl) (ca hm (fun _ => p100 (Head.rd (K := [0]) u14.Name u14.At )) fun z19 W21 hm l21 => ?_)
  obtain ⟨u24, e25, hm⟩ := ob hm
  refine Lw.r rfl (R.ix (α := Head) (o7.up l21).rd e25 rfl rfl rfl) ?_
  obtain ⟨q27, e28, hm⟩ := ob hm
  refine Lw.u (T.stS (K' := []) (o7.up l21) (Head.rd (K := []) z19.Name z19.At) e28 rfl rfl rfl) ?_
  rintro _ _ ⟨W26, rfl, l26, o26⟩
  exact nl (rg (mi rfl (Lw.add rfl (Ni rfl ((agm) ⟨w64 (y5 + 1), q27, W26, rfl, ((l8.j l21).j l26).w, rfl, o26, hm⟩)))))
 ·refine Cw.exit ?_
  rw [hK9] at hm
  refine sr (mv v3 rfl (Nv v3 rfl ?_))
  cases hm
  exact Cw.ret (ret1 rfl (Res.mk a11 ⟨v3, rfl, o7.s.sub rfl rfl⟩))

theorem p47 {x0 v0_ k0 r} (h0 : Rd W K [v0_] x0) (hm : Vm.laws_toHeadS x0 = some r) : Q1 47 [v0_] W [] fun W' v => ∃ u0, v = u0 ∧ Ow W' k0 [] [u0] r :=
 (c47 (h0.view _) hm).ad (fk k0) fun _ _ ⟨u0, e, f0⟩ => ⟨u0, e, f0.back (fk_LL _)⟩

theorem c11 {x0 v0_0_ v0_1_ r} (h0 : Rd W0 [0] [v0_0_, v0_1_] x0) (hm : Vm.laws_toRepo x0 = some r) : Q0 11 [.agg [v0_0_, v0_1_].toArray] W0 fun Wf v => ∃ u0_0 u0_1, v = .agg [u0_0, u0_1].toArray ∧ OwS Wf [31] [] [u0_0] r.Commits ∧ OwS Wf [32] [] [u0_1] r.Heads := by
 unfold Vm.laws_toRepo at hm
 obtain ⟨w0_0, w0_1, he0, h0_0, h0_1⟩ := Repo.split h0
 simp only [List.cons.injEq, and_true, true_and] at he0
 obtain ⟨rfl, rfl⟩ := he0
 refine CallR.of Tryd.func11 rfl rfl rfl rfl (sr (bo 2 rfl fun g1 W1 l1 b1 => ?_))
 have a2 := l1.o
 refine al 3 [.slice none 0 0, .slice none 0 0] fun g3 W3 l3 b3 => ?_
 have a4 := a2.n l3
 refine nl (sr (al 4 [.slice none 0 0, .slice none 0 0] fun g6 W6 l6 b6 => ?_))
 have a7 := a4.n l6
 have b8 := (b1.up l3).up l6
 refine nl (sr (fl b8 rfl (cr hm (fun _ => p22 (k0 := 5) (h0_0.ul a7)) ?_)))
 rintro z11 v0_13 W13 hm l13 ⟨_, rfl, f13_0⟩
 have a14 := a7.n l13
 refine Lw.fa rfl (Lw.u (T.st (j := 0) (v := v0_13) (b6.up l13) rfl rfl f13_0.oc rfl rfl) ?_)
 rintro _ _ ⟨W18, rfl, l18, b18⟩
 have a19 := a14.t l18
 refine nl (sr (fl ((b8.up l13).up l18) rfl (cr hm (fun _ => p47 (k0 := 6) (h0_1.ul a19)) ?_)))
 rintro z24 v0_26 W26 hm l26 ⟨_, rfl, f26_0⟩
 have a27 := a19.n l26
 refine Lw.fa rfl (Lw.u (T.st (j := 1) (v := v0_26) (b18.up l26) rfl rfl f26_0.oc rfl rfl) ?_)
 rintro _ _ ⟨W32, rfl, l32, b32⟩
 have a33 := a27.t l32
 have o34 := ((f13_0.up l18).up l26).up l32
 refine nl (sr (la b32 (sta (((((b3.up l6).up l13).up l18).up l26).up l32) (oc_cons o34.oc (oc_cons (f26_0.up l32).oc oc_nil)) fun W38 l38 b38 => ?_)))
 have a39 := a33.t l38
 refine nl ?_
 obtain ⟨W44, ew44, l44, o44⟩ := (o34.up l38).dyeO 31
 have a45 := a39.t l44
 obtain ⟨W50, ew50, l50, o50⟩ := (((f26_0.up l32).up l38).up l44).dyeO 32
 have a51 := a45.t l50
 cases hm
 rw [← ew50.trans (ew44)]
 exact Cw.ret (retA1 rfl ((b38.up l44).up l50) (Res.mk a51 ⟨v0_13, v0_26, rfl, (o44.up l50).s, o50.s⟩))

theorem p11 {x0 v0_0_ v0_1_ k0 k1 r} (h0 : Rd W K [v0_0_, v0_1_] x0) (hm : Vm.laws_toRepo x0 = some r) : Q1 11 [.agg [v0_0_, v0_1_].toArray] W [] fun W' v => ∃ u0_0 u0_1, v = .agg [u0_0, u0_1].toArray ∧ Ow W' k0 [] [u0_0] r.Commits ∧ Ow W' k1 [] [u0_1] r.Heads :=
 CallR.adJ (J := []) (fun c => bif Nat.beq c 0 then 0 else bif Nat.beq c 31 then k0 else bif Nat.beq c 32 then k1 else 0) (c11 (h0.view _) hm) fun _ _ ⟨u0_0, u0_1, e, f0, f1⟩ => ⟨u0_0, u0_1, e, f0.one1.backN rfl, f1.one1.backN rfl⟩

theorem c63 {x0 x1 x2 r} (hm : Vm.spec_l1In x0 x1 x2 = some r) : Q0 63 [vI x0, vI x1, vI x2] W0 fun Wf v => v = vB r := by
 unfold Vm.spec_l1In at hm
 refine CallR.of Tryd.func63 rfl rfl rfl rfl (sr (Nb rfl ?_))
 obtain ⟨K3, hK3, hm⟩ := jn_e hm
 refine Cw.join 7 14 [6] (fun l w => ∃ y1 W2, CW.w W2 = w ∧ Le [] W0 W2 ∧ l = [vB y1] ∧ K3 y1 = some r) ?_ ?_
 ·rintro _ _ σ ⟨y1, W2, rfl, l2, rfl, hm⟩
  rw [hK3] at hm
  have a4 := l2.o
  exact .ret (rt hm a4)
 ·refine rg (mi rfl (mi rfl (Lw.ge rfl (mb rfl (bs hm (fun hc5 hm => ?_) fun hc5 hm => ?_)))))
  ·exact wak 3 hc5 (mi rfl (mi rfl (Lw.le rfl (Pb hc5 rfl (Nb rfl ((ag) ⟨decide ((x0 : Int) ≤ (x2 : Int)), W0, rfl, Le.refl _ _, rfl, hm⟩))))))
  ·exact psk 3 hc5 rfl (Pb hc5 rfl (Nb rfl ((ag) ⟨false, W0, rfl, Le.refl _ _, rfl, hm⟩)))

theorem p63 {x0 x1 x2 r} (hm : Vm.spec_l1In x0 x1 x2 = some r) : Q1 63 [vI x0, vI x1, vI x2] W [] fun W' v => v = vB r :=
 (c63 (W0 := W.view [] [])  hm).ad (fk 0) fun _ _ e => e

theorem c98 {x0 r} (hm : Vm.spec_l4Name x0 = some r) : Q0 98 [vS x0] W0 fun Wf v => v = vB r := by
 unfold Vm.spec_l4Name at hm
 refine CallR.of Tryd.func98 rfl rfl rfl rfl (sr (Nb rfl (ssr (Ni rfl (Cw.block ?_)))))
 obtain ⟨K4, hK4, hm⟩ := jn_e hm
 refine Cw.loop 4 31 [2, 3] (fun m l w => ∃ y1 y2 W3, CW.w W3 = w ∧ Le [] W0 W3 ∧ l = [vB y1, vI y2] ∧ Vm.spec_l4Name_l1 x0 K4 m y1 y2 = some r) _ ⟨false, 0, W0, rfl, Le.refl _ _, rfl, hm⟩ ?_
 rintro (_ | m5) _ _ σ ⟨y1, y2, W3, rfl, l3, rfl, hm⟩
 ·cases hm
 unfold Vm.spec_l4Name_l1 at hm
 have a6 := l3.o
 refine ssr (mi rfl (ms rfl (Lw.r rfl (R.lenS rfl) (Lw.lt rfl (nl (cn hm (fun hm => ?_) fun hm => ?_))))))
 ·refine sk (Cw.seq (Cw.block ?_))
  obtain ⟨K10, hK10, hm⟩ := jn_e hm
  refine Cw.join 10 31 [31] (fun l w => ∃ y8 W9, CW.w W9 = w ∧ Le [] W3 W9 ∧ l = [vB y8] ∧ K10 y8 = some r) ?_ ?_
  ·rintro _ _ σ ⟨y8, W9, rfl, l9, rfl, hm⟩
   rw [hK10] at hm
   have a11 := a6.n l9
   refine cn hm (fun hm => ?_) fun hm => ?_
   ·exact sr (Nb rfl (.ret (rt hm a11)))
   ·exact sk (rg (mi rfl (Lw.add rfl (Ni rfl ((agm) ⟨y1, w64 (y2 + 1), W9, rfl, (l3.j l9).w, rfl, hm⟩)))))
  ·refine rg (ms rfl (mi rfl ?_))
   obtain ⟨u13, e14, hm⟩ := ob hm
   refine Lw.r rfl (R.chm e14 rfl rfl) (Lw.lt rfl (mb rfl (bs hm (fun hc15 hm => ?_) fun hc15 hm => ?_)))
   ·refine psk 4 hc15 rfl (Pb hc15 rfl (mb rfl (wak 5 rfl (ms rfl (mi rfl ?_)))))
    obtain ⟨u16, e17, hm⟩ := ob hm
    refine Lw.r rfl (R.chm e17 rfl rfl) (Lw.lt rfl (mb rfl (bs hm (fun hc18 hm => ?_) fun hc18 hm => ?_)))
    ·exact psk 4 hc18 rfl (wak 1 rfl (Pb hc18 rfl (Pb rfl rfl (nl ((ag) ⟨true, W3, rfl, Le.refl _ _, rfl, hm⟩)))))
    ·refine wak 4 hc18 (ms rfl (mi rfl ?_))
     obtain ⟨u19, e20, hm⟩ := ob hm
     exact Lw.r rfl (R.chm e20 rfl rfl) (Lw.gt rfl (wak 1 rfl (Pb hc18 rfl (Pb rfl rfl (nl ((ag) ⟨decide ((57 : Int) < ((UInt8.toNat u19 : Int) : Int)), W3, rfl, Le.refl _ _, rfl, hm⟩))))))
   ·refine wak 4 hc15 (ms rfl (mi rfl ?_))
    obtain ⟨u21, e22, hm⟩ := ob hm
    refine Lw.r rfl (R.chm e22 rfl rfl) (Lw.gt rfl (Pb hc15 rfl (mb rfl (bs hm (fun hc23 hm => ?_) fun hc23 hm => ?_))))
    ·refine wak 5 hc23 (ms rfl (mi rfl ?_))
     obtain ⟨u24, e25, hm⟩ := ob hm
     refine Lw.r rfl (R.chm e25 rfl rfl) (Lw.lt rfl (mb rfl (bs hm (fun hc26 hm => ?_) fun hc26 hm => ?_)))
     ·exact psk 4 hc26 rfl (wak 1 hc23 (Pb hc26 rfl (Pb hc23 rfl (nl ((ag) ⟨true, W3, rfl, Le.refl _ _, rfl, hm⟩)))))
     ·refine wak 4 hc26 (ms rfl (mi rfl ?_))
      obtain ⟨u27, e28, hm⟩ := ob hm
      exact Lw.r rfl (R.chm e28 rfl rfl) (Lw.gt rfl (wak 1 hc23 (Pb hc26 rfl (Pb hc23 rfl (nl ((ag) ⟨decide ((57 : Int) < ((UInt8.toNat u27 : Int) : Int)), W3, rfl, Le.refl _ _, rfl, hm⟩))))))
    ·exact psk 5 hc23 rfl (puk 4 rfl (psk 1 hc23 rfl (Pb hc23 rfl (nl ((ag) ⟨false, W3, rfl, Le.refl _ _, rfl, hm⟩)))))
 ·refine Cw.exit ?_
  rw [hK4] at hm
  refine sr (ms rfl (Lw.r rfl (R.lenS rfl) (ca hm (fun _ => p63) fun z29 W31 hm l31 => ?_)))
  have a32 := a6.n l31
  exact Nb rfl (.ret (rt hm a32))

theorem p98 {x0 r} (hm : Vm.spec_l4Name x0 = some r) : Q1 98 [vS x0] W [] fun W' v => v = vB r :=
 (c98 (W0 := W.view [] [])  hm).ad (fk 0) fun _ _ e => e

theorem c72 {x0 x1 x2 r} (hm : Vm.spec_l1Cut x0 x1 x2 = some r) : Q0 72 [vS x0, .int .u8 (UInt8.toNat x1 : Int), vI x2] W0 fun Wf v => ∃ u0, v = u0 ∧ OwS Wf LL [] [u0] r := by
 unfold Vm.spec_l1Cut at hm
 refine CallR.of Tryd.func72 rfl rfl rfl rfl (sr (Nv (.slice none 0 0) rfl (sr (Lw.t rfl (T.lit0 (α := Str) 2 []) ?_))))
 rintro v1 _ ⟨W1, rfl, l1, o1⟩
 have a2 := l1.o
 refine Nv v1 rfl (sr (Ni rfl (ssr (Ni rfl (Cw.block ?_)))))
 obtain ⟨K9, hK9, hm⟩ := jn_e hm
 refine Cw.loop 11 36 [7, 8, 9] (fun m l w => ∃ y3 y6 y7 v4 W8, CW.w W8 = w ∧ Le [2] W1 W8 ∧ l = [v4, vI y6, vI y7] ∧ Ow W8 2 [] [v4] y3 ∧ Vm.spec_l1Cut_l1 x0 x1 x2 K9 m y3 y6 y7 = some r) _ ⟨([] : List Str), 0, 0, v1, W1, rfl, Le.refl _ _, rfl, o1, hm⟩ ?_
 rintro (_ | m10) _ _ σ ⟨y3, y6, y7, v4, W8, rfl, l8, rfl, o5, hm⟩
 ·cases hm
 unfold Vm.spec_l1Cut_l1 at hm
 have a11 := a2.t l8
 refine Cw.seq ?_
 obtain ⟨K14, hK14, hm⟩ := jn_e hm
 refine Cw.join 11 20 [20] (fun l w => ∃ y12 W13, CW.w W13 = w ∧ Le [] W8 W13 ∧ l = [vB y12] ∧ K14 y12 = some r) ?_ ?_
 ·rintro _ _ σ ⟨y12, W13, rfl, l13, rfl, hm⟩
  rw [hK14] at hm
  have a15 := a11.n l13
  have o16 := o5.up l13
  refine cn hm (fun hm => ?_) fun hm => ?_
  ·refine sk ?_
   obtain ⟨K23, hK23, hm⟩ := jn_e hm
   refine Cw.join 23 36 [7, 8] (fun l w => ∃ y18 y21 v19 W22, CW.w W22 = w ∧ Le [2] W13 W22 ∧ l = [v19, vI y21] ∧ Ow W22 2 [] [v19] y18 ∧ K23 y18 y21 = some r) ?_ ?_
   ·rintro _ _ σ ⟨y18, y21, v19, W22, rfl, l22, rfl, o20, hm⟩
    rw [hK23] at hm
    exact rg (mi rfl (Lw.add rfl (Ni rfl ((agm) ⟨y18, y21, w64 (y7 + 1), v19, W22, rfl, ((l8.j l13).j l22).w, rfl, o20, hm⟩))))
   ·refine Cw.block (sr (ms rfl (mi rfl ?_)))
    obtain ⟨u25, e26, hm⟩ := ob hm
    refine Lw.r rfl (R.chm e26 rfl rfl) (mv (.int .u8 (UInt8.toNat x1 : Int)) rfl (Lw.eq rfl (nl (cn hm (fun hm => ?_) fun hm => ?_))))
    ·refine sr (mv v4 rfl (ms rfl (mi rfl (mi rfl ?_))))
     obtain ⟨q28, e29, hm⟩ := ob hm
     refine Lw.r rfl (R.ss e29 rfl (.inr rfl) (.inr rfl)) (Lw.t rfl (T.bs 3 [vS q28] (cs := [vS q28]) rfl rfl (bsv rfl)) ?_)
     rintro _ _ ⟨g30, W30, rfl, rfl, l30, b30⟩
     obtain ⟨q33, e34, hm⟩ := ob hm
     refine Lw.t rfl (T.app1S (α := Str) (K' := []) (o16.up l30) b30 (rdS _) rfl rfl e34) ?_
     rintro v35 _ ⟨W35, rfl, l35, o35⟩
     exact Nv v35 rfl (rg (mi rfl (Lw.add rfl (Ni rfl ((ag) ⟨q33, w64 (y7 + 1), v35, W35, rfl, (l30.j l35).w, rfl, o35, hm⟩)))))
    ·exact sk ((ag) ⟨y3, y6, v4, W13, rfl, Le.refl _ _, rfl, o16, hm⟩)
  ·refine Cw.exit ?_
   rw [hK9] at hm
   refine sr (mv v4 rfl (ms rfl (mi rfl ?_)))
   obtain ⟨q38, e39, hm⟩ := ob hm
   refine Lw.r rfl (R.ss e39 rfl (.inr rfl) (.inl ⟨rfl, rfl⟩)) (Lw.t rfl (T.bs 4 [vS q38] (cs := [vS q38]) rfl rfl (bsv rfl)) ?_)
   rintro _ _ ⟨g40, W40, rfl, rfl, l40, b40⟩
   have a41 := a15.n l40
   obtain ⟨q43, e44, hm⟩ := ob hm
   refine Lw.t rfl (T.app1S (α := Str) (K' := []) (o16.up l40) b40 (rdS _) rfl rfl e44) ?_
   rintro v45 _ ⟨W45, rfl, l45, o45⟩
   have a46 := a41.t l45
   refine Nv v45 rfl ?_
   cases hm
   exact Cw.ret (ret1 rfl (Res.mk a46 ⟨v45, rfl, o45.s.sub rfl rfl⟩))
 ·refine rg (mi rfl (ms rfl (Lw.r rfl (R.lenS rfl) (Lw.lt rfl (mb rfl (bs hm (fun hc48 hm => ?_) fun hc48 hm => ?_))))))
  ·exact wak 4 hc48 (mv v4 rfl (Lw.ln y3 o5.rd rfl (mi rfl (Lw.lt rfl (Pb hc48 rfl (nl ((ag) ⟨decide (((y3.length : Int) : Int) < (x2 : Int)), W8, rfl, Le.refl _ _, rfl, hm⟩)))))))
  ·exact psk 4 hc48 rfl (Pb hc48 rfl (nl ((ag) ⟨false, W8, rfl, Le.refl _ _, rfl, hm⟩)))

theorem p72 {x0 x1 x2 k0 r} (hm : Vm.spec_l1Cut x0 x1 x2 = some r) : Q1 72 [vS x0, .int .u8 (UInt8.toNat x1 : Int), vI x2] W [] fun W' v => ∃ u0, v = u0 ∧ Ow W' k0 [] [u0] r :=
 (c72 (W0 := W.view [] [])  hm).ad (fk k0) fun _ _ ⟨u0, e, f0⟩ => ⟨u0, e, f0.back (fk_LL _)⟩

theorem c112 {x0 r} (hm : Vm.spec_l4Path x0 = some r) : Q0 112 [vS x0] W0 fun Wf v => v = vB r := by
 unfold Vm.spec_l4Path at hm
 refine CallR.of Tryd.func112 rfl rfl rfl rfl (sr (Nb rfl (sr (ms rfl (cr hm (fun _ => p72 (k0 := 2)) ?_)))))
 rintro z1 v0_3 W3 hm l3 ⟨_, rfl, f3_0⟩
 have a4 := l3.o
 refine Nv v0_3 rfl (ssr (Ni rfl (Cw.block ?_)))
 obtain ⟨K8, hK8, hm⟩ := jn_e hm
 refine Cw.loop 7 18 [2, 4] (fun m l w => ∃ y5 y6 W7, CW.w W7 = w ∧ Le [] W3 W7 ∧ l = [vB y5, vI y6] ∧ Vm.spec_l4Path_l1 z1 K8 m y5 y6 = some r) _ ⟨false, 0, W3, rfl, Le.refl _ _, rfl, hm⟩ ?_
 rintro (_ | m9) _ _ σ ⟨y5, y6, W7, rfl, l7, rfl, hm⟩
 ·cases hm
 unfold Vm.spec_l4Path_l1 at hm
 have a10 := a4.n l7
 have o11 := f3_0.up l7
 refine ssr (mi rfl (mv v0_3 rfl (Lw.ln z1 o11.rd rfl (Lw.lt rfl (nl (cn hm (fun hm => ?_) fun hm => ?_))))))
 ·refine sk (Cw.seq (Cw.block (sr (mv v0_3 rfl (mi rfl ?_)))))
  obtain ⟨u13, e14, hm⟩ := ob hm
  refine Lw.r rfl (R.ix (α := Str) o11.rd e14 rfl rfl rfl) (Lw.r rfl (R.ld rfl rfl (o11.rd.at_ e14).str) (ca hm (fun _ => p98) fun z15 W17 hm l17 => ?_))
  have a18 := a10.n l17
  refine Lw.r rfl (R.not rfl) (nl (cn hm (fun hm => ?_) fun hm => ?_))
  ·exact sr (Nb rfl (.ret (rt hm a18)))
  ·exact sk (rg (mi rfl (Lw.add rfl (Ni rfl ((agm) ⟨y5, w64 (y6 + 1), W17, rfl, (l7.j l17).w, rfl, hm⟩)))))
 ·refine Cw.exit ?_
  rw [hK8] at hm
  exact sr (mv v0_3 rfl (Lw.ln z1 o11.rd rfl (Lw.le rfl (Nb rfl (.ret (rt hm a10))))))

theorem p112 {x0 r} (hm : Vm.spec_l4Path x0 = some r) : Q1 112 [vS x0] W [] fun W' v => v = vB r :=
 (c112 (W0 := W.view [] [])  hm).ad (fk 0) fun _ _ e => e

theorem c147 {x0 r} (hm : Vm.spec_l1Line x0 = some r) : Q0 147 [vS x0] W0 fun Wf v => v = vB r := by
 unfold Vm.spec_l1Line at hm
 refine CallR.of Tryd.func147 rfl rfl rfl rfl (sr (Nb rfl (ssr (Ni rfl (Cw.block ?_)))))
 obtain ⟨K4, hK4, hm⟩ := jn_e hm
 refine Cw.loop 4 19 [2, 3] (fun m l w => ∃ y1 y2 W3, CW.w W3 = w ∧ Le [] W0 W3 ∧ l = [vB y1, vI y2] ∧ Vm.spec_l1Line_l1 x0 K4 m y1 y2 = some r) _ ⟨false, 0, W0, rfl, Le.refl _ _, rfl, hm⟩ ?_
 rintro (_ | m5) _ _ σ ⟨y1, y2, W3, rfl, l3, rfl, hm⟩
 ·cases hm
 unfold Vm.spec_l1Line_l1 at hm
 have a6 := l3.o
 refine ssr (mi rfl (ms rfl (Lw.r rfl (R.lenS rfl) (Lw.lt rfl (nl (cn hm (fun hm => ?_) fun hm => ?_))))))
 ·refine sk (Cw.seq (Cw.block ?_))
  obtain ⟨K10, hK10, hm⟩ := jn_e hm
  refine Cw.join 10 19 [19] (fun l w => ∃ y8 W9, CW.w W9 = w ∧ Le [] W3 W9 ∧ l = [vB y8] ∧ K10 y8 = some r) ?_ ?_
  ·rintro _ _ σ ⟨y8, W9, rfl, l9, rfl, hm⟩
   rw [hK10] at hm
   have a11 := a6.n l9
   refine cn hm (fun hm => ?_) fun hm => ?_
   ·exact sr (Nb rfl (.ret (rt hm a11)))
   ·exact sk (rg (mi rfl (Lw.add rfl (Ni rfl ((agm) ⟨y1, w64 (y2 + 1), W9, rfl, (l3.j l9).w, rfl, hm⟩)))))
  ·refine rg (ms rfl (mi rfl ?_))
   obtain ⟨u13, e14, hm⟩ := ob hm
   refine Lw.r rfl (R.chm e14 rfl rfl) (Lw.lt rfl (mb rfl (bs hm (fun hc15 hm => ?_) fun hc15 hm => ?_)))
   ·exact psk 4 hc15 rfl (Pb hc15 rfl (nl ((ag) ⟨true, W3, rfl, Le.refl _ _, rfl, hm⟩)))
   ·refine wak 4 hc15 (ms rfl (mi rfl ?_))
    obtain ⟨u16, e17, hm⟩ := ob hm
    exact Lw.r rfl (R.chm e17 rfl rfl) (Lw.gt rfl (Pb hc15 rfl (nl ((ag) ⟨decide ((126 : Int) < ((UInt8.toNat u16 : Int) : Int)), W3, rfl, Le.refl _ _, rfl, hm⟩))))
 ·refine Cw.exit ?_
  rw [hK4] at hm
  exact sr (ms rfl (Lw.r rfl (R.lenS rfl) (Lw.le rfl (Nb rfl (.ret (rt hm a6))))))

theorem p147 {x0 r} (hm : Vm.spec_l1Line x0 = some r) : Q1 147 [vS x0] W [] fun W' v => v = vB r :=
 (c147 (W0 := W.view [] [])  hm).ad (fk 0) fun _ _ e => e

theorem c131 {x0 v0_ r} (h0 : Rd W0 [0] [v0_] x0) (hm : Vm.spec_l1Ok x0 = some r) : Q0 131 [v0_] W0 fun Wf v => v = vB r := by
 unfold Vm.spec_l1Ok at hm
 refine CallR.of Tryd.func131 rfl rfl rfl rfl (sr (Nb rfl (ssr (Ni rfl (Cw.block ?_)))))
 obtain ⟨K4, hK4, hm⟩ := jn_e hm
 refine Cw.loop 4 15 [2, 3] (fun m l w => ∃ y1 y2 W3, CW.w W3 = w ∧ Le [] W0 W3 ∧ l = [vB y1, vI y2] ∧ Vm.spec_l1Ok_l1 x0 K4 m y1 y2 = some r) _ ⟨false, 0, W0, rfl, Le.refl _ _, rfl, hm⟩ ?_
 rintro (_ | m5) _ _ σ ⟨y1, y2, W3, rfl, l3, rfl, hm⟩
 ·cases hm
 unfold Vm.spec_l1Ok_l1 at hm
 have a6 := l3.o
 refine ssr ?_
 have s7 := h0.ul a6
 refine mi rfl (mv v0_ rfl (Lw.ln x0 s7 rfl (Lw.lt rfl (nl (cn hm (fun hm => ?_) fun hm => ?_)))))
 ·refine sk (Cw.seq (Cw.block (sr (mv v0_ rfl (mi rfl ?_)))))
  obtain ⟨u9, e10, hm⟩ := ob hm
  refine Lw.r rfl (R.ix (α := Str) s7 e10 rfl rfl rfl) (Lw.r rfl (R.ld rfl rfl (s7.at_ e10).str) (ca hm (fun _ => p147) fun z11 W13 hm l13 => ?_))
  have a14 := a6.n l13
  refine Lw.r rfl (R.not rfl) (nl (cn hm (fun hm => ?_) fun hm => ?_))
  ·exact sr (Nb rfl (.ret (rt hm a14)))
  ·exact sk (rg (mi rfl (Lw.add rfl (Ni rfl ((agm) ⟨y1, w64 (y2 + 1), W13, rfl, (l3.j l13).w, rfl, hm⟩)))))
 ·refine Cw.exit ?_
  rw [hK4] at hm
  exact sr (mv v0_ rfl (Lw.ln x0 s7 rfl (Lw.le rfl (Nb rfl (.ret (rt hm a6))))))

theorem p131 {x0 v0_ r} (h0 : Rd W K [v0_] x0) (hm : Vm.spec_l1Ok x0 = some r) : Q1 131 [v0_] W [] fun W' v => v = vB r :=
 (c131 (h0.view _) hm).ad (fk 0) fun _ _ e => e

theorem c132 {x0 x1 r} (hm : Vm.spec_l4In x0 x1 = some r) : Q0 132 [vS x0, vS x1] W0 fun Wf v => v = vB r := by
 unfold Vm.spec_l4In at hm
 refine CallR.of Tryd.func132 rfl rfl rfl rfl (sr (Nb rfl ?_))
 obtain ⟨K3, hK3, hm⟩ := jn_e hm
 refine Cw.join 5 24 [4] (fun l w => ∃ y1 W2, CW.w W2 = w ∧ Le [] W0 W2 ∧ l = [vB y1] ∧ K3 y1 = some r) ?_ ?_
 ·rintro _ _ σ ⟨y1, W2, rfl, l2, rfl, hm⟩
  rw [hK3] at hm
  have a4 := l2.o
  exact .ret (rt hm a4)
 ·refine rg (ms rfl (Lw.r rfl (R.lenS rfl) (ms rfl (Lw.r rfl (R.lenS rfl) (Lw.gt rfl (mb rfl (bs hm (fun hc5 hm => ?_) fun hc5 hm => ?_)))))))
  ·refine wak 6 hc5 (ms rfl (ms rfl (Lw.r rfl (R.lenS rfl) ?_)))
   obtain ⟨q6, e7, hm⟩ := ob hm
   refine Lw.r rfl (R.ss e7 rfl (.inl ⟨rfl, rfl⟩) (.inr rfl)) (ms rfl (Lw.seq rfl (Pb hc5 rfl (mb rfl (bs hm (fun hc8 hm => ?_) fun hc8 hm => ?_)))))
   ·refine wak 5 hc8 (ms rfl (ms rfl (Lw.r rfl (R.lenS rfl) ?_)))
    obtain ⟨u9, e10, hm⟩ := ob hm
    exact Lw.r rfl (R.chm e10 rfl rfl) (Lw.eq rfl (Pb hc8 rfl (Nb rfl ((ag) ⟨(((UInt8.toNat u9 : Int) : Int) == (47 : Int)), W0, rfl, Le.refl _ _, rfl, hm⟩))))
   ·exact psk 5 hc8 rfl (Pb hc8 rfl (Nb rfl ((ag) ⟨false, W0, rfl, Le.refl _ _, rfl, hm⟩)))
  ·exact psk 6 hc5 rfl (Pb hc5 rfl (mb rfl (psk 5 rfl rfl (Pb rfl rfl (Nb rfl ((ag) ⟨false, W0, rfl, Le.refl _ _, rfl, hm⟩))))))

theorem p132 {x0 x1 r} (hm : Vm.spec_l4In x0 x1 = some r) : Q1 132 [vS x0, vS x1] W [] fun W' v => v = vB r :=
 (c132 (W0 := W.view [] [])  hm).ad (fk 0) fun _ _ e => e

theorem c99 {x0 v0_ r} (h0 : Rd W0 [0] [v0_] x0) (hm : Vm.spec_l4Ok x0 = some r) : Q0 99 [v0_] W0 fun Wf v => v = vB r := by
 unfold Vm.spec_l4Ok at hm
 refine CallR.of Tryd.func99 rfl rfl rfl rfl (sr (Nb rfl (ssr (Ni rfl (Cw.block ?_)))))
 obtain ⟨K5, hK5, hm⟩ := jn_e hm
 refine Cw.loop 5 61 [2, 3, 4] (fun m l w => ∃ y1 y2 j3 W4, CW.w W4 = w ∧ Le [] W0 W4 ∧ l = [vB y1, vI y2, j3] ∧ Vm.spec_l4Ok_l1 x0 K5 m y1 y2 = some r) _ ⟨false, 0, undef, W0, rfl, Le.refl _ _, rfl, hm⟩ ?_
 rintro (_ | m6) _ _ σ ⟨y1, y2, j3, W4, rfl, l4, rfl, hm⟩
 ·cases hm
 unfold Vm.spec_l4Ok_l1 at hm
 have a7 := l4.o
 refine ssr (mi rfl (mv v0_ rfl (Lw.ln x0 (h0.ul a7) rfl (Lw.lt rfl (nl (cn hm (fun hm => ?_) fun hm => ?_))))))
 ·refine sk (Cw.seq (Cw.block (Cw.seq ?_)))
  obtain ⟨K12, hK12, hm⟩ := jn_e hm
  refine Cw.join 11 44 [44] (fun l w => ∃ y10 W11, CW.w W11 = w ∧ Le [] W4 W11 ∧ l = [vB y10] ∧ K12 y10 = some r) ?_ ?_
  ·rintro _ _ σ ⟨y10, W11, rfl, l11, rfl, hm⟩
   rw [hK12] at hm
   have a13 := a7.n l11
   refine cn hm (fun hm => ?_) fun hm => ?_
   ·exact sr (Nb rfl (.ret (rt hm a13)))
   ·refine sk (sr (Ni rfl (Cw.block ?_)))
    obtain ⟨K18, hK18, hm⟩ := jn_e hm
    refine Cw.loop 45 61 [2, 4] (fun m l w => ∃ y15 y16 W17, CW.w W17 = w ∧ Le [] W11 W17 ∧ l = [vB y15, vI y16] ∧ Vm.spec_l4Ok_l2 x0 y2 K18 m y15 y16 = some r) _ ⟨y1, 0, W11, rfl, Le.refl _ _, rfl, hm⟩ ?_
    rintro (_ | m19) _ _ σ ⟨y15, y16, W17, rfl, l17, rfl, hm⟩
    ·cases hm
    unfold Vm.spec_l4Ok_l2 at hm
    have a20 := a13.n l17
    refine ssr (mi rfl (mv v0_ rfl (Lw.ln x0 (h0.ul a20) rfl (Lw.lt rfl (nl (cn hm (fun hm => ?_) fun hm => ?_))))))
    ·refine sk (Cw.seq (Cw.block (Cw.seq (Cw.draw [] [(0, 0), (1, 0), (2, 0), (3, 0), (4, 1), (5, 0), (6, 0), (7, 0), (8, 0), (9, 1), (10, 3)] mixed (by kernel_rfl) fun W23 l23 => ?_))))
     have a24 := a20.n l23
     refine Dv v0_ rfl (Di rfl ?_)
     obtain ⟨u25, e26, hm⟩ := ob hm
     have s27 := h0.ul a24
     refine Mw.p rfl rfl (fun _ => R.ix (α := File) s27 e26 rfl rfl rfl) (Df rfl (Mw.q rfl rfl (fun _ c => R.ld rfl rfl (cl_cell (File.at0 (s27.at_ e26)).1 rfl (File.at0 (s27.at_ e26)).str c)) (Dv v0_ rfl (Di rfl ?_))))
     obtain ⟨u28, e29, hm⟩ := ob hm
     refine Mw.p rfl rfl (fun _ => R.ix (α := File) s27 e29 rfl rfl rfl) (Df rfl (Mw.q rfl rfl (fun _ c => R.ld rfl rfl (cl_cell (File.at0 (s27.at_ e29)).1 rfl (File.at0 (s27.at_ e29)).str c)) ?_))
     obtain ⟨z30, e31, hm⟩ := ob hm
     refine Mw.l rfl rfl (T.call rfl (p132   e31)) ?_
     rintro _ _ ⟨W32, rfl, l32, rfl⟩
     have a33 := a24.n l32
     refine Mw.nil (cn hm (fun hm => ?_) fun hm => ?_)
     ·exact sr (Nb rfl (.ret (rt hm a33)))
     ·exact sk (rg (mi rfl (Lw.add rfl (Ni rfl ((agm) ⟨y15, w64 (y16 + 1), W32, rfl, ((l17.j l23).j l32).w, rfl, hm⟩)))))
    ·refine Cw.exit ?_
     rw [hK18] at hm
     exact rg (mi rfl (Lw.add rfl (Ni rfl ((agm) ⟨y15, w64 (y2 + 1), vI y16, W17, rfl, ((l4.j l11).j l17).w, rfl, hm⟩))))
  ·refine Cw.draw [] [(0, 0), (1, 0), (2, 0), (3, 0), (4, 1), (5, 2), (6, 0), (7, 0), (8, 0), (9, 0), (10, 0), (11, 0), (12, 1), (13, 2), (14, 0), (15, 0), (16, 0), (17, 0), (18, 0), (19, 0), (20, 0), (21, 0), (22, 0), (23, 0), (24, 1), (25, 0), (26, 0), (27, 0), (28, 0), (29, 0), (30, 1), (31, 0), (32, 0), (33, 0)] mixed (by kernel_rfl) fun W35 l35 => ?_
   have a36 := a7.n l35
   refine Dv v0_ rfl (Di rfl ?_)
   obtain ⟨u37, e38, hm⟩ := ob hm
   have s39 := h0.ul a36
   refine Mw.p rfl rfl (fun _ => R.ix (α := File) s39 e38 rfl rfl rfl) (Df rfl (Mw.q rfl rfl (fun _ c => R.ld rfl rfl (cl_cell (File.at0 (s39.at_ e38)).1 rfl (File.at0 (s39.at_ e38)).str c)) ?_))
   obtain ⟨z40, e41, hm⟩ := ob hm
   refine Mw.t rfl rfl (T.call rfl (p112   e41)) ?_
   rintro _ _ ⟨W42, rfl, l42, rfl⟩
   have a43 := l42.o
   refine m0 l42 fun d42 => Mw.p rfl rfl (fun _ => R.not rfl) (Db rfl (bs hm (fun hc44 hm => ?_) fun hc44 hm => ?_))
   ·exact dps 7 hc44 rfl (Mw.p rfl rfl (fun _ => R.pk hc44 rfl (v := vB true) rfl) (Db rfl (dps 3 rfl rfl (dpu 12 rfl (dps 1 rfl rfl (Mw.p rfl rfl (fun _ => R.pk rfl rfl (v := vB true) rfl) (Mw.nil ((ag) ⟨true, W42, rfl, (l35.j l42).w, rfl, hm⟩))))))))
   ·refine Wp hc44 rfl (fun _ => R.mv (v := v0_) rfl) (Wp hc44 rfl (fun _ => R.mv (v := vI y2) rfl) ?_)
    obtain ⟨u45, e46, hm⟩ := ob hm
    refine Wp hc44 rfl (fun _ => R.ix (α := File) s39 e46 rfl rfl rfl) (Wp hc44 rfl (fun _ => R.fa rfl) ?_)
    obtain ⟨v47, c48, r49⟩ := (File.at1 (s39.at_ e46)).cell rfl
    refine Wq hc44 rfl (fun _ c => R.ld rfl rfl (cl_cell (File.at1 (s39.at_ e46)).1 rfl c48 c)) ?_
    obtain ⟨z51, e52, hm⟩ := ob hm
    refine Wt hc44 rfl (T.call rfl (p131  (r49.ul a43) e52)) ?_
    rintro _ _ ⟨W53, rfl, l53, rfl⟩
    refine mc d42 l53 fun d53 => Wp hc44 rfl (fun _ => R.not rfl) (Mw.p rfl rfl (fun _ => R.pk hc44 rfl (v := vB (!z51)) rfl) (Db rfl (bs hm (fun hc55 hm => ?_) fun hc55 hm => ?_)))
    ·exact dps 3 hc55 rfl (dpu 12 rfl (dps 1 hc55 rfl (Mw.p rfl rfl (fun _ => R.pk hc55 rfl (v := vB true) rfl) (Mw.nil ((ag) ⟨true, W53, rfl, ((l35.j l42).j l53).w, rfl, hm⟩)))))
    ·refine Wp hc55 rfl (fun _ => R.mv (v := vI y2) rfl) (Wp hc55 rfl (fun _ => R.gt rfl rfl) (Wp hc55 rfl (fun _ => R.mv (v := vB (decide ((0 : Int) < (y2 : Int)))) rfl) (bs hm (fun hc56 hm => ?_) fun hc56 hm => ?_)))
     ·refine Wp hc56 rfl (fun _ => R.mv (v := v0_) rfl) (Wp hc56 rfl (fun _ => R.mv (v := vI y2) rfl) ?_)
      obtain ⟨u57, e58, hm⟩ := ob hm
      refine Wp hc56 rfl (fun _ => R.ix (α := File) s39 e58 rfl rfl rfl) (Wp hc56 rfl (fun _ => R.fa rfl) (Wq hc56 rfl (fun _ c => R.ld rfl rfl (cl_cell (File.at0 (s39.at_ e58)).1 rfl (File.at0 (s39.at_ e58)).str c)) (Wp hc56 rfl (fun _ => R.mv (v := v0_) rfl) (Wp hc56 rfl (fun _ => R.mv (v := vI y2) rfl) (Wp hc56 rfl (fun _ => R.sub rfl rfl) ?_)))))
      obtain ⟨u59, e60, hm⟩ := ob hm
      exact Wp hc56 rfl (fun _ => R.ix (α := File) s39 e60 rfl rfl rfl) (Wp hc56 rfl (fun _ => R.fa rfl) (Wq hc56 rfl (fun _ c => R.ld rfl rfl (cl_cell (File.at0 (s39.at_ e60)).1 rfl (File.at0 (s39.at_ e60)).str c)) (Wp hc56 rfl (fun _ => R.sle rfl rfl) (Wp hc55 rfl (fun _ => R.pk hc56 rfl (v := vB (Op.bytesLess u57.Path u59.Path || u57.Path == u59.Path)) rfl) (Mw.p rfl rfl (fun _ => R.pk hc55 rfl (v := vB (Op.bytesLess u57.Path u59.Path || u57.Path == u59.Path)) rfl) (Mw.nil ((ag) ⟨(Op.bytesLess u57.Path u59.Path || u57.Path == u59.Path), W53, rfl, ((l35.j l42).j l53).w, rfl, hm⟩)))))))
     ·exact dps 12 hc56 rfl (Wp hc55 rfl (fun _ => R.pk hc56 rfl (v := vB false) rfl) (Mw.p rfl rfl (fun _ => R.pk hc55 rfl (v := vB false) rfl) (Mw.nil ((ag) ⟨false, W53, rfl, ((l35.j l42).j l53).w, rfl, hm⟩))))
 ·refine Cw.exit ?_
  rw [hK5] at hm
  exact sr (mv v0_ rfl (Lw.ln x0 (h0.ul a7) rfl (Lw.le rfl (Nb rfl (.ret (rt hm a7))))))

theorem p99 {x0 v0_ r} (h0 : Rd W K [v0_] x0) (hm : Vm.spec_l4Ok x0 = some r) : Q1 99 [v0_] W [] fun W' v => v = vB r :=
 (c99 (h0.view _) hm).ad (fk 0) fun _ _ e => e

end Go.Sx
