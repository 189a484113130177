/- Plain law FnBlameLine, and what it uses: what the models answer. Conditions: each law's own premises. -/
import Derived.Test.YtidkloialdageaaGreatDoorCGFnBlameLinea
namespace Go.Vm
open Go Go.Sx
set_option linter.unusedSimpArgs false
set_option linter.unusedVariables false
set_option linter.unusedSectionVars false
theorem get_eq {t : List File} (h : TB t) (p : Str) : impl_get t p = some (getT t p) := by
  have hm := h.maxi
  unfold impl_get getT
  simp only [jn, fuel0]
  rw [loop_find (p := fun f : File => f.Path == p) (xs := t) (r := fun f => some (f.Text, true)) (Z := some ([], false)) (f := fun m k => impl_get_l1 t p _ m [] false k) (fun m i x hx => by
    have hf := h.at_ hx
    simp only [impl_get_l1, lt_of hx, gi_of hx, cond_true, Option.bind_some, copyText_eq hf.len, w64_ix (ix_of hx) hm]) (fun m => by simp only [impl_get_l1, end_of, cond_false]) (by omega)]
  cases t.find? (fun f => f.Path == p) <;> rfl
section
variable {r : Repo} (h : RpB r) (hr : repoB r = true) {a : Nat} (ha : a < r.Commits.length)
include h hr ha
theorem tree_facts : TB (treeAt r a) ∧ treeB (treeAt r a) = true ∧ textsB (treeAt r a) := by
  have ua : upB r.Commits.length (a : Int) = true := upB_iff.2 (by omega)
  have ht := tree_at_tb h ua
  rw [Int.toNat_natCast] at ht
  have := repo_com hr ha
  unfold comB at this
  simp only [Bool.and_eq_true] at this
  exact ⟨ht, this.2.2.2.2, tree_texts this.2.2.2.2⟩
theorem blT_text (p : Str) : textB (blT r p a) = true := getT_text (tree_facts h hr ha).2.2 p
theorem blT_small (p : Str) : (blT r p a).length ≤ 10 := textB_len (blT_text h hr ha p)
theorem treeGet_eq (p : Str) : impl_TreeGet (treeAt r a) p = some (getT (treeAt r a) p) := by
  obtain ⟨t1, t2, t3⟩ := tree_facts h hr ha
  unfold impl_TreeGet
  rw [TreeOk_eq t1, t2, Option.bind_some, Bool.not_true, cond_false, get_eq t1, Option.bind_some]
end
theorem blT_not {r : Repo} {p : Str} {a : Nat} (h : (getT (treeAt r a) p).2 = false) : blT r p a = [] := by
  unfold blT getT at *
  cases hf : (treeAt r a).find? (fun f => f.Path == p) with
  | none => rfl
  | some f => rw [hf] at h; cases h
theorem zip_at {m by_ : List Int} {i : Nat} {z : Int × Int} (h : (m.zip by_)[i]? = some z) : m[i]? = some z.1 ∧ by_[i]? = some z.2 := List.getElem?_zip_eq_some.1 h
theorem gi_getA {d : List Int} {p : Int} (h0 : 0 ≤ p) (h : p.toNat < d.length) : gi d p = some (d.getD p.toNat 0) := by
  have := gi_getI (l := d) h
  rwa [show ((p.toNat : Nat) : Int) = p by omega] at this
theorem ov_up {out : List Int} {z : Int × Int} (h0 : 0 ≤ z.1) (h1 : z.1 < (out.length : Int)) : (∃ u, gi out z.1 = some u) ∧ siM out z.1 z.2 = some (ovS out z) := by
  have hl : z.1.toNat < out.length := by omega
  refine ⟨⟨_, gi_getA h0 hl⟩, ?_⟩
  have := siM_of hl z.2
  rw [show ((z.1.toNat : Nat) : Int) = z.1 by omega] at this
  rw [this]
  unfold ovS
  rw [decide_eq_true h0]
  rfl
theorem ovS_no {out : List Int} {z : Int × Int} (h0 : ¬ 0 ≤ z.1) : ovS out z = out := by
  unfold ovS
  rw [decide_eq_false h0]
  rfl
theorem sov_l2 {m by_ out : List Int} (hl : m.length = by_.length) (hm : m.length ≤ 1000) (hin : ∀ x ∈ m, x < (out.length : Int)) {K : Int → List Int → Option (List Int)} : spec_l11Of_l2 by_ m K (m.length + 1) 0 out = K (m.length : Int) (ovL out m by_) := by
  have hz : (m.zip by_).length = m.length := by rw [List.length_zip]; omega
  have e := loop_fold0 (xs := m.zip by_) (g := ovS) (I := fun s => s.length = out.length) (Z := fun s => K (m.length : Int) s) (f := fun n i s => spec_l11Of_l2 by_ m K n i s) (s := out) rfl (fun n i z s hz' hs => by
    obtain ⟨h1, h2⟩ := zip_at hz'
    have hix := ix_of h1
    refine ⟨?_, by rw [ovS_len]; exact hs⟩
    simp only [spec_l11Of_l2, jn, lt_of h1, gi_of h1, gi_of h2, cond_true, Option.bind_some, w64_ix hix (show m.length ≤ maxi by unfold maxi; omega)]
    by_cases h0 : 0 ≤ z.1
    · obtain ⟨⟨u, e1⟩, e2⟩ := ov_up h0 (by rw [hs]; exact hin _ (List.mem_of_getElem? h1))
      rw [decide_eq_true h0, cond_true, e1, Option.bind_some, e2, Option.bind_some]
    · rw [decide_eq_false h0, cond_false, ovS_no h0]) (fun n s _ => by
    rw [hz]
    simp only [spec_l11Of_l2, end_of, cond_false])
  rw [hz] at e
  exact e
theorem iov_l2 {m : List Int} {out : List Int} {w : List Int × Bool} (hl : m.length = w.1.length) (hm : m.length ≤ 1000) (hin : ∀ x ∈ m, x < (out.length : Int)) {K : Int → List Int → Option (List Int × Bool)} : impl_Repo_blame_l2 w m K (m.length + 1) 0 out = K (m.length : Int) (ovL out m w.1) := by
  have hz : (m.zip w.1).length = m.length := by rw [List.length_zip]; omega
  have e := loop_fold0 (xs := m.zip w.1) (g := ovS) (I := fun s => s.length = out.length) (Z := fun s => K (m.length : Int) s) (f := fun n i s => impl_Repo_blame_l2 w m K n i s) (s := out) rfl (fun n i z s hz' hs => by
    obtain ⟨h1, h2⟩ := zip_at hz'
    have hix := ix_of h1
    refine ⟨?_, by rw [ovS_len]; exact hs⟩
    simp only [impl_Repo_blame_l2, jn, lt_of h1, gi_of h1, gi_of h2, cond_true, Option.bind_some, w64_ix hix (show m.length ≤ maxi by unfold maxi; omega)]
    by_cases h0 : 0 ≤ z.1
    · obtain ⟨⟨u, e1⟩, e2⟩ := ov_up h0 (by rw [hs]; exact hin _ (List.mem_of_getElem? h1))
      rw [decide_eq_true h0, cond_true, e1, Option.bind_some, e2, Option.bind_some]
    · rw [decide_eq_false h0, cond_false, ovS_no h0]) (fun n s _ => by
    rw [hz]
    simp only [impl_Repo_blame_l2, end_of, cond_false])
  rw [hz] at e
  exact e
theorem sfill_l1 {a : Int} {w : List Str × Bool} (hw : w.1.length ≤ 1000) {K : List Int → Int → Option (List Int)} : ∀ (k i m : Nat), i + k = w.1.length → k < m → spec_l11Of_l1 a w K m (List.replicate i a) (i : Int) = K (List.replicate w.1.length a) (w.1.length : Int)
  | k, i, 0, _, hm => by omega
  | 0, i, m + 1, hi, _ => by
    obtain rfl : i = w.1.length := by omega
    simp only [spec_l11Of_l1, end_of, cond_false]
  | k + 1, i, m + 1, hi, hm => by
    have hlt : i < w.1.length := by omega
    simp only [spec_l11Of_l1]
    rw [decide_eq_true (by omega), cond_true, ap1 (by simp; omega), Option.bind_some, w64_ix hlt (show w.1.length ≤ maxi by unfold maxi; omega), ← List.replicate_succ']
    exact sfill_l1 hw k (i + 1) m (by omega) (by omega)
theorem fillA (a : Int) (k i : Nat) : (List.replicate i a ++ List.replicate (k + 1) (0 : Int)).set i a = List.replicate (i + 1) a ++ List.replicate k 0 := by
  have h : (List.replicate i a).length = i := by simp
  rw [List.set_append_right _ _ (by rw [h]; exact Nat.le_refl _), h, Nat.sub_self, List.replicate_succ, List.set_cons_zero, List.replicate_succ', List.append_assoc]
  rfl
theorem ifill_l1 {a : Int} {q : List Int} (hq : q.length ≤ 1000) {K : Int → List Int → Option (List Int × Bool)} : ∀ (k i m : Nat), i + k = q.length → k < m → impl_Repo_blame_l1 a q K m (i : Int) (List.replicate i a ++ List.replicate k 0) = K (q.length : Int) (List.replicate q.length a)
  | k, i, 0, _, hm => by omega
  | 0, i, m + 1, hi, _ => by
    obtain rfl : i = q.length := by omega
    simp only [impl_Repo_blame_l1, end_of, cond_false, List.replicate_zero, List.append_nil]
  | k + 1, i, m + 1, hi, hm => by
    have hlt : i < q.length := by omega
    have hl : i < (List.replicate i a ++ List.replicate (k + 1) (0 : Int)).length := by simp only [List.length_append, List.length_replicate]; omega
    simp only [impl_Repo_blame_l1]
    rw [decide_eq_true (by omega), cond_true, gi_getI hl, Option.bind_some, siM_of hl, Option.bind_some, w64_ix hlt (show q.length ≤ maxi by unfold maxi; omega), fillA]
    exact ifill_l1 hq k (i + 1) m (by omega) (by omega)
theorem mt2_lt {a b : List Str} : ∀ x ∈ mt2 a b, x < (b.length : Int) := fun x hx => by
  obtain ⟨i, hi⟩ := List.getElem?_of_mem hx
  have := (mt2_in hi).2
  omega
theorem com_atN {r : Repo} {a : Nat} (ha : a < r.Commits.length) : gi r.Commits (a : Int) = some (r.Commits.getD a noCommit) := com_at ha
theorem blN_one {r : Repo} {p : Str} {f a : Nat} (h : blT r p a = []) : blN r p f a = [] := List.eq_nil_of_length_eq_zero (by rw [blN_len, h]; rfl)
theorem blN_alone {r : Repo} {p : Str} {f a : Nat} {q : Int} {ps : List Int} (hp : parsAt r a = q :: ps) (hq : blT r p q.toNat = []) : blN r p (f + 1) a = List.replicate (blT r p a).length (a : Int) := by
  rw [blN_cons hp, hq]
  unfold mt2 ovL
  rw [mtF_nil]
  rfl
theorem s11_eq {r : Repo} (h : RpB r) (hr : repoB r = true) (p : Str) : ∀ (f a m : Nat), a ≤ f → a < r.Commits.length → f < m → spec_l11Of_r m r (a : Int) p = some (blN r p f a)
  | f, a, 0, _, _, hm => by omega
  | f, a, m + 1, hf, ha, hm => by
    obtain ⟨t1, t2, t3⟩ := tree_facts h hr ha
    have hsm := blT_small h hr ha p
    simp only [spec_l11Of_r, com_atN ha, Option.bind_some]
    rw [show (r.Commits.getD a noCommit).Tree = treeAt r a from rfl, l4Get_eq t1, Option.bind_some]
    cases hg : (getT (treeAt r a) p).2 with
    | false => rw [Bool.not_false, cond_true, blN_one (blT_not hg)]
    | true =>
      rw [Bool.not_true, cond_false]
      simp only [jn, fuel0]
      have e := sfill_l1 (a := (a : Int)) (w := getT (treeAt r a) p) (show (blT r p a).length ≤ 1000 by omega) (K := fun (y19 : List Int) (y22 : Int) =>
        bif ((((r.Commits.getD a noCommit).Parents.length : Int) : Int) == (0 : Int)) then
          (some y19)
        else
          ((gi (r.Commits.getD a noCommit).Parents 0).bind fun u52 =>
          (gi r.Commits u52).bind fun u54 =>
          (Vm.spec_l4Get u54.Tree p).bind fun z59 =>
          bif (!z59.2) then
            (some y19)
          else
            ((Vm.spec_l11Of_r m r u52 p).bind fun z69 =>
            (Vm.spec_l1Match z59.1 (getT (treeAt r a) p).1).bind fun z77 =>
            spec_l11Of_l2 z69 z77 (fun (_ : Int) (y85 : List Int) => some y85) (z77.length + 1) 0 y19))) (blT r p a).length 0 ((blT r p a).length + 1) (by show 0 + (blT r p a).length = (blT r p a).length; omega) (by omega)
      refine e.trans ?_
      show (bif (((parsAt r a).length : Int) == (0 : Int)) then some (List.replicate (blT r p a).length (a : Int)) else (gi (parsAt r a) 0).bind _) = _
      cases hp : parsAt r a with
      | nil => rw [blN_nil hp]; rfl
      | cons q ps =>
        obtain ⟨p0, p1, p2, p3⟩ := first_at hr ha hp
        obtain ⟨q1, q2, q3⟩ := tree_facts h hr p2
        have hsq := blT_small h hr p2 p
        obtain ⟨g, rfl⟩ : ∃ g, f = g + 1 := ⟨f - 1, by omega⟩
        have g0 : gi (q :: ps) 0 = some q := rfl
        have gq : gi r.Commits q = some (r.Commits.getD q.toNat noCommit) := by rw [← p3]; exact com_atN p2
        rw [beq_false_of_ne (by simp only [List.length_cons]; omega), cond_false, g0, Option.bind_some, gq, Option.bind_some, show (r.Commits.getD q.toNat noCommit).Tree = treeAt r q.toNat from rfl, l4Get_eq q1, Option.bind_some]
        cases hg2 : (getT (treeAt r q.toNat) p).2 with
        | false => rw [Bool.not_false, cond_true, blN_alone hp (blT_not hg2)]; rfl
        | true =>
          have ih := s11_eq h hr p g q.toNat m (by omega) p2 (by omega)
          rw [p3] at ih
          rw [Bool.not_true, cond_false, ih, Option.bind_some]
          show (spec_l1Match (blT r p q.toNat) (blT r p a)).bind _ = _
          rw [smatch_eq (by omega) (by omega), Option.bind_some]
          obtain ⟨_, hl⟩ := mt2_asc (blT r p q.toNat) (blT r p a)
          rw [sov_l2 (by rw [hl, blN_len]) (by rw [hl]; omega) (by rw [List.length_replicate]; exact mt2_lt), blN_cons hp]
          rfl
theorem blame_eq {r : Repo} (h : RpB r) (hr : repoB r = true) (p : Str) : ∀ (f a m : Nat), a ≤ f → a < r.Commits.length → f < m → impl_Repo_blame_r m r (a : Int) p = some (blN r p f a, (getT (treeAt r a) p).2)
  | f, a, 0, _, _, hm => by omega
  | f, a, m + 1, hf, ha, hm => by
    obtain ⟨t1, t2, t3⟩ := tree_facts h hr ha
    have ua : upB r.Commits.length (a : Int) = true := upB_iff.2 (by omega)
    have hsm := blT_small h hr ha p
    have et := iTree_at h hr ua
    rw [Int.toNat_natCast] at et
    simp only [impl_Repo_blame_r, et, Option.bind_some, get_eq t1]
    cases hg : (getT (treeAt r a) p).2 with
    | false => rw [Bool.not_false, cond_true, blN_one (blT_not hg)]
    | true =>
      rw [Bool.not_true, cond_false]
      show (mkM ((blT r p a).length : Int) (0 : Int)).bind _ = _
      rw [mkM_of (by unfold lim; omega), Option.bind_some]
      simp only [jn, fuel0]
      have e := ifill_l1 (a := (a : Int)) (q := List.replicate (blT r p a).length 0) (by rw [List.length_replicate]; omega) (K := fun (_ : Int) (y25 : List Int) =>
        (Vm.impl_Repo_first r (a : Int)).bind fun z44 =>
        bif decide ((z44 : Int) < (0 : Int)) then
          (some (y25, true))
        else
          ((Vm.impl_Repo_blame_r m r z44 p).bind fun z54 =>
          bif (!z54.2) then
            (some (y25, true))
          else
            ((Vm.impl_Repo_tree r z44).bind fun z64 =>
            (Vm.impl_get z64 p).bind fun z73 =>
            (Vm.impl_match z73.1 (getT (treeAt r a) p).1).bind fun z81 =>
            impl_Repo_blame_l2 z54 z81 (fun (_ : Int) (y93 : List Int) => some (y93, true)) (z81.length + 1) 0 y25))) (blT r p a).length 0 ((List.replicate (blT r p a).length (0 : Int)).length + 1) (by rw [List.length_replicate]; omega) (by rw [List.length_replicate]; omega)
      refine e.trans ?_
      rw [List.length_replicate, ifirst_eq hr ha, Option.bind_some]
      cases hp : parsAt r a with
      | nil =>
        simp only
        rw [decide_eq_true (by omega), cond_true, blN_nil hp]
      | cons q ps =>
        obtain ⟨p0, p1, p2, p3⟩ := first_at hr ha hp
        obtain ⟨q1, q2, q3⟩ := tree_facts h hr p2
        have hsq := blT_small h hr p2 p
        have uq : upB r.Commits.length q = true := upB_iff.2 (by omega)
        obtain ⟨g, rfl⟩ : ∃ g, f = g + 1 := ⟨f - 1, by omega⟩
        have ih := blame_eq h hr p g q.toNat m (by omega) p2 (by omega)
        rw [p3] at ih
        simp only
        rw [decide_eq_false (by omega), cond_false, ih, Option.bind_some]
        cases hg2 : (getT (treeAt r q.toNat) p).2 with
        | false =>
          rw [Bool.not_false, cond_true, blN_alone hp (blT_not hg2)]
        | true =>
          rw [Bool.not_true, cond_false, iTree_at h hr uq, Option.bind_some, get_eq q1, Option.bind_some]
          show (impl_match (blT r p q.toNat) (blT r p a)).bind _ = _
          rw [imatch_eq (by omega) (by omega), Option.bind_some]
          obtain ⟨_, hl⟩ := mt2_asc (blT r p q.toNat) (blT r p a)
          rw [iov_l2 (w := (blN r p g q.toNat, true)) (by rw [hl, blN_len]) (by rw [hl]; omega) (by rw [List.length_replicate]; exact mt2_lt), blN_cons hp]
def blameB (r : Repo) (a : Int) (p : Str) : List Int := bif repoB r && upB r.Commits.length a then blN r p a.toNat a.toNat else []
theorem s11Of_eq {r : Repo} (h : RpB r) (hr : repoB r = true) {a : Nat} (ha : a < r.Commits.length) (p : Str) : spec_l11Of r (a : Int) p = some (blN r p a a) := by
  unfold spec_l11Of
  exact s11_eq h hr p a a _ (Nat.le_refl _) ha (by omega)
theorem sBlameOf_eq {r : Repo} (h : RpB r) (a : Int) (p : Str) : spec_BlameOf r a p = some (blameB r a p) := by
  unfold spec_BlameOf blameB
  simp only [jn, l7Ok_eq h, l1In_eq, low_ix (to_maxi h.coms), Option.bind_some]
  rw [show (decide ((0 : Int) ≤ a) && decide (a ≤ (r.Commits.length : Int) - 1)) = upB r.Commits.length a from rfl]
  cases hr : repoB r with
  | false => rfl
  | true =>
    cases ha : upB r.Commits.length a with
    | false => rfl
    | true =>
      obtain ⟨a0, a1⟩ := upB_iff.1 ha
      have e := s11Of_eq h hr (a := a.toNat) (by omega) p
      rw [show ((a.toNat : Nat) : Int) = a by omega] at e
      simp only [Bool.not_true, cond_false, Bool.and_true, cond_true, e, Option.bind_some]
theorem iBlameOf_eq {r : Repo} (h : RpB r) (a : Int) (p : Str) : impl_BlameOf r a p = some (blameB r a p) := by
  unfold impl_BlameOf blameB
  rw [are_eq h (by simp), Option.bind_some]
  simp only [List.all_cons, List.all_nil, Bool.and_true]
  cases hr : repoB r && upB r.Commits.length a with
  | false => rfl
  | true =>
    simp only [Bool.and_eq_true] at hr
    obtain ⟨a0, a1⟩ := upB_iff.1 hr.2
    have e := blame_eq h hr.1 p a.toNat a.toNat (a.toNat + 2) (Nat.le_refl _) (by omega) (by omega)
    rw [show ((a.toNat : Nat) : Int) = a by omega] at e
    unfold impl_Repo_blame
    rw [Bool.not_true, cond_false, cond_true, e]
    rfl
theorem blameB_len {r : Repo} (h : RpB r) (a : Int) (p : Str) : (blameB r a p).length ≤ 10 := by
  unfold blameB
  cases hr : repoB r && upB r.Commits.length a with
  | false => simp
  | true =>
    simp only [Bool.and_eq_true] at hr
    obtain ⟨a0, a1⟩ := upB_iff.1 hr.2
    rw [cond_true, blN_len]
    exact blT_small h hr.1 (by omega) p
theorem blameB_some {r : Repo} {a : Int} {p : Str} (h : blameB r a p ≠ []) : repoB r = true ∧ upB r.Commits.length a = true ∧ blameB r a p = blN r p a.toNat a.toNat := by
  unfold blameB at h ⊢
  cases hr : repoB r && upB r.Commits.length a with
  | false => rw [hr] at h; exact absurd rfl h
  | true =>
    simp only [Bool.and_eq_true] at hr
    exact ⟨hr.1, hr.2, rfl⟩
theorem drawBlameOf_eq {code : List Byte} (h : code.length ≤ 1048576) : ∃ x a p, spec_DrawBlameOf code = some (x, a, p) ∧ Drawn x ∧ -1 ≤ a ∧ a ≤ 16 ∧ p.length ≤ 1048576 := by
  unfold spec_DrawBlameOf
  obtain ⟨b, e, hr⟩ := open0 h
  obtain ⟨x, q, e2, hx, r2⟩ := anyRepo_eq hr (by omega)
  obtain ⟨a, e3, a0, a1⟩ := l30At_eq r2 (by omega) hx
  have hcm := hx.coms
  have r3 : RdOk ⟨b, q + 1 + 1⟩ (0 + 2010 + 2) := rd_on (r := ⟨b, q + 1⟩) (rd_on (r := ⟨b, q⟩) (q := 0 + 2010 + 1) r2 (by omega) (by omega)) (by omega) (by omega)
  simp only [e, Option.bind_some, e2, repo_eta, e3, jn, l1In_eq, low_ix (to_maxi hx.rb.coms)]
  have hP : ∀ {qq p : Int}, RdOk ⟨b, qq⟩ p → p ≤ 200000 → ∃ s : Str, ((spec_l30Path ⟨b, qq⟩).bind fun z261 => some (x, a, z261.1)) = some (x, a, s) ∧ s.length ≤ 1048576 := fun {qq p} hq hp => by
    obtain ⟨s, es, hs⟩ := path_eq hq (by omega)
    exact ⟨s, by rw [es]; rfl, by omega⟩
  cases hu : (decide ((0 : Int) ≤ a) && decide (a ≤ (x.Commits.length : Int) - 1)) with
  | false =>
    obtain ⟨s, es, hs⟩ := hP r3 (by omega)
    exact ⟨x, a, s, by simp only [cond_false]; exact es, hx, a0, a1, hs⟩
  | true =>
    simp only [Bool.and_eq_true, decide_eq_true_eq] at hu
    have hg := com_atI hu.1 hu.2
    have ht := tree_at_tb hx.rb (upB_iff.2 hu)
    unfold treeAt at ht
    have htl := ht.1
    simp only [cond_true, hg, Option.bind_some]
    by_cases h0 : 0 < (x.Commits.getD a.toNat noCommit).Tree.length
    · obtain ⟨k, e4, k0, k1⟩ := pick_eq r3 (n := 4) (by omega) (by omega) (by omega)
      have r4 : RdOk ⟨b, q + 1 + 1 + 1⟩ (0 + 2010 + 3) := rd_on (r := ⟨b, q + 1 + 1⟩) r3 (k := 1) (by omega) (by omega)
      simp only at e4
      rw [decide_eq_true (by omega), cond_true, e4, Option.bind_some]
      simp only
      cases decide ((0 : Int) < k) with
      | false =>
        obtain ⟨s, es, hs⟩ := hP r4 (by omega)
        exact ⟨x, a, s, by simp only [cond_false]; exact es, hx, a0, a1, hs⟩
      | true =>
        obtain ⟨j, e5, j0, j1⟩ := pick_eq r4 (n := ((x.Commits.getD a.toNat noCommit).Tree.length : Int)) (by omega) (by omega) (by omega)
        simp only [cond_true] at e5 ⊢
        rw [e5, Option.bind_some]
        have hj : j.toNat < (x.Commits.getD a.toNat noCommit).Tree.length := by omega
        have gj : gi (x.Commits.getD a.toNat noCommit).Tree j = some ((x.Commits.getD a.toNat noCommit).Tree[j.toNat]) := by
          have := gi_of (List.getElem?_eq_getElem hj)
          rwa [show ((j.toNat : Nat) : Int) = j by omega] at this
        simp only
        rw [gj, Option.bind_some]
        exact ⟨x, a, _, rfl, hx, a0, a1, (ht.2 _ (List.getElem_mem hj)).path⟩
    · obtain ⟨s, es, hs⟩ := hP r3 (by omega)
      exact ⟨x, a, s, by rw [decide_eq_false (by omega), cond_false]; simp only [cond_false]; exact es, hx, a0, a1, hs⟩
theorem lawHas_eq {xs : List Str} {s : Str} (h : xs.length ≤ maxi) : laws_smHas xs s = some (decide (s ∈ xs)) := by
  unfold laws_smHas
  simp only [jn, fuel0]
  rw [loop_find (p := fun x : Str => x == s) (xs := xs) (r := fun _ => some true) (Z := some false) (f := fun m k => laws_smHas_l1 xs s _ m false k) (fun m i x hx => by
    simp only [laws_smHas_l1, lt_of hx, gi_of hx, cond_true, Option.bind_some, w64_ix (ix_of hx) h]) (fun m => by simp only [laws_smHas_l1, end_of, cond_false]) (by omega)]
  cases hf : xs.find? (fun x => x == s) with
  | some x =>
    have : s ∈ xs := by
      have h1 := List.mem_of_find?_eq_some hf
      have h2 : x = s := by simpa using List.find?_some hf
      rwa [h2] at h1
    rw [decide_eq_true this]
  | none =>
    have : s ∉ xs := fun hm => by
      have := List.find?_eq_none.1 hf s hm
      simp at this
    rw [decide_eq_false this]
end Go.Vm
namespace Go.Vm
open Go Go.Sx
set_option linter.unusedSimpArgs false
set_option linter.unusedVariables false
set_option linter.unusedSectionVars false
theorem blN_hit {r : Repo} {p : Str} {f a k i : Nat} {q : Int} {ps : List Int} (hp : parsAt r a = q :: ps) (hk : k < (blT r p a).length) (hm : (mt2 (blT r p q.toNat) (blT r p a))[i]? = some (k : Int)) : (blN r p (f + 1) a).getD k 0 = (blN r p f q.toNat).getD i 0 := by
  rw [blN_cons hp]
  obtain ⟨ha, hl⟩ := mt2_asc (blT r p q.toNat) (blT r p a)
  have hle : (mt2 (blT r p q.toNat) (blT r p a)).length ≤ (blN r p f q.toNat).length := by rw [hl, blN_len]; exact Nat.le_refl _
  have hil := (mt2_in hm).1
  have hb : i < (blN r p f q.toNat).length := by rw [blN_len]; exact hil
  have hz : ((k : Int), (blN r p f q.toNat)[i]) ∈ (mt2 (blT r p q.toNat) (blT r p a)).zip (blN r p f q.toNat) := by
    refine List.mem_of_getElem? (i := i) ?_
    rw [List.getElem?_zip_eq_some]
    exact ⟨hm, List.getElem?_eq_getElem hb⟩
  unfold ovL
  rw [ov_hit _ _ (zip_pair ha hle) (by rw [List.length_replicate]; exact hk) hz rfl, List.getD_eq_getElem?_getD, List.getElem?_eq_getElem hb]
  rfl
theorem line_l2 {l : List Int} (hl : l.length ≤ 1000) {v : Int} {K : Int → Option (List Int)} : ∀ (k i m : Nat), i + k = l.length → k < m → v ∈ l.drop i → ∃ j : Nat, l[j]? = some v ∧ spec_BlameLine_l2 l K m v (i : Int) = K (j : Int)
  | k, i, 0, _, hm, _ => by omega
  | 0, i, m + 1, hi, _, hv => by
    obtain rfl : i = l.length := by omega
    rw [List.drop_length] at hv
    simp at hv
  | k + 1, i, m + 1, hi, hm, hv => by
    have hlt : i < l.length := by omega
    have hx : l[i]? = some l[i] := List.getElem?_eq_getElem hlt
    simp only [spec_BlameLine_l2, lt_of hx, gi_of hx, cond_true, Option.bind_some, w64_ix hlt (show l.length ≤ maxi by unfold maxi; omega)]
    by_cases he : l[i] = v
    · exact ⟨i, by rw [hx, he], by rw [he, beq_self_eq_true, cond_true]⟩
    · rw [beq_false_of_ne he, cond_false]
      rw [List.drop_eq_getElem_cons hlt] at hv
      rcases List.mem_cons.1 hv with q | q
      · exact absurd q.symm he
      · exact line_l2 hl k (i + 1) m (by omega) (by omega) q
def upTo (r : Repo) (f a : Nat) (c : Int) : List Int := (lineN r (f + 1) a).take ((lineN r (f + 1) a).idxOf c + 1)
theorem upTo_self (r : Repo) (f a : Nat) : upTo r f a (a : Int) = [(a : Int)] := by
  unfold upTo
  rw [lineN_cons, List.idxOf_cons_self]
  rfl
theorem upTo_cons {r : Repo} {f a : Nat} {q : Int} {ps : List Int} (hp : parsAt r a = q :: ps) {c : Int} (hc : (a : Int) ≠ c) : upTo r (f + 1) a c = (a : Int) :: upTo r f q.toNat c := by
  unfold upTo
  rw [lineN_cons, hp]
  simp only
  rw [List.idxOf_cons, beq_false_of_ne hc, cond_false, List.take_succ_cons]
theorem bline_l1 {r : Repo} (h : RpB r) (hr : repoB r = true) (p : Str) : ∀ (f a m k : Nat) (out : List Int), a ≤ f → a < r.Commits.length → f < m → k < (blT r p a).length → out.length + f ≤ 1000 →
    spec_BlameLine_l1 r p (fun y22 _ y24 _ => (apM y24 [y22]).bind fun q149 => some q149) m (a : Int) (k : Int) out (blN r p f a) = some (out ++ upTo r f a ((blN r p f a).getD k 0))
  | f, a, 0, k, out, _, _, hm, _, _ => by omega
  | f, a, m + 1, k, out, hf, ha, hm, hk, ho => by
    have hkl : k < (blN r p f a).length := by rw [blN_len]; exact hk
    have gk : gi (blN r p f a) (k : Int) = some ((blN r p f a).getD k 0) := gi_getI hkl
    obtain ⟨t1, t2, t3⟩ := tree_facts h hr ha
    have hsm := blT_small h hr ha p
    simp only [spec_BlameLine_l1, gk, Option.bind_some]
    by_cases hc : (a : Int) = (blN r p f a).getD k 0
    · rw [← hc, bne_self_eq_false, cond_false, ap1 (by omega), Option.bind_some, upTo_self]
    · have hne : ((a : Int) != (blN r p f a).getD k 0) = true := by rw [bne_iff_ne]; exact hc
      rw [hne, cond_true, ap1 (by omega), Option.bind_some]
      cases hp : parsAt r a with
      | nil =>
        exfalso
        apply hc
        rw [blN_nil hp, List.getD_eq_getElem?_getD, List.getElem?_replicate, if_pos hk]
        rfl
      | cons q ps =>
        obtain ⟨p0, p1, p2, p3⟩ := first_at hr ha hp
        obtain ⟨q1, q2, q3⟩ := tree_facts h hr p2
        have hsq := blT_small h hr p2 p
        obtain ⟨g, rfl⟩ : ∃ g, f = g + 1 := ⟨f - 1, by omega⟩
        have hp' : (r.Commits.getD a noCommit).Parents = q :: ps := hp
        have g0 : gi (q :: ps) 0 = some q := rfl
        have gq : gi r.Commits q = some (r.Commits.getD q.toNat noCommit) := by rw [← p3]; exact com_atN p2
        obtain ⟨_, hl⟩ := mt2_asc (blT r p q.toNat) (blT r p a)
        have hmem : (k : Int) ∈ mt2 (blT r p q.toNat) (blT r p a) := by
          rcases blN_at (r := r) (p := p) (f := g) hk with ⟨q', ps', i, hpq, hm', _, _⟩ | ⟨e, _⟩
          · rw [hp] at hpq
            cases hpq
            exact List.mem_of_getElem? hm'
          · exact absurd e.symm hc
        simp only [com_atN ha, Option.bind_some, show (r.Commits.getD a noCommit).Tree = treeAt r a from rfl, l4Get_eq t1, hp', g0, gq, show (r.Commits.getD q.toNat noCommit).Tree = treeAt r q.toNat from rfl, l4Get_eq q1]
        rw [show (getT (treeAt r q.toNat) p).1 = blT r p q.toNat from rfl, show (getT (treeAt r a) p).1 = blT r p a from rfl, smatch_eq (by omega) (by omega), Option.bind_some]
        simp only [jn, fuel0]
        obtain ⟨j, j1, j2⟩ := line_l2 (l := mt2 (blT r p q.toNat) (blT r p a)) (by rw [hl]; omega) (v := (k : Int)) (K := fun (y102 : Int) =>
          (Vm.spec_l11Of r q p).bind fun z114 =>
          spec_BlameLine_l1 r p (fun y22 _ y24 _ => (apM y24 [y22]).bind fun q149 => some q149) m q y102 (out ++ [(a : Int)]) z114) (mt2 (blT r p q.toNat) (blT r p a)).length 0 ((mt2 (blT r p q.toNat) (blT r p a)).length + 1) (by omega) (by omega) (by rw [List.drop_zero]; exact hmem)
        refine j2.trans ?_
        have hjl := (mt2_in j1).1
        have e11 := s11_eq h hr p g q.toNat (q.toNat + 2)
        have es : spec_l11Of r q p = some (blN r p q.toNat q.toNat) := by
          have := s11Of_eq h hr p2 p
          rwa [p3] at this
        have hhit := blN_hit (f := g) hp hk j1
        have eNN : blN r p q.toNat q.toNat = blN r p g q.toNat := by
          have e1 := s11_eq h hr p g q.toNat (g + 1) (by omega) p2 (by omega)
          have e2 := s11_eq h hr p q.toNat q.toNat (g + 1) (Nat.le_refl _) p2 (by omega)
          rw [e1] at e2
          exact (Option.some.inj e2).symm
        rw [es, Option.bind_some, eNN]
        have ih := bline_l1 h hr p g q.toNat m j (out ++ [(a : Int)]) (by omega) p2 (by omega) hjl (by simp; omega)
        rw [p3] at ih
        rw [ih, hhit, upTo_cons hp (by rw [← hhit]; exact hc), List.append_assoc]
        rfl
def blineB (r : Repo) (a : Int) (p : Str) (k : Int) : List Int := bif decide (0 ≤ k) && decide (k ≤ ((blameB r a p).length : Int) - 1) then upTo r a.toNat a.toNat ((blameB r a p).getD k.toNat 0) else []
theorem sBlameLine_eq {r : Repo} (h : RpB r) (hcm : r.Commits.length ≤ 100) (a : Int) (p : Str) (k : Int) : spec_BlameLine r a p k = some (blineB r a p k) := by
  have hlen := blameB_len h a p
  unfold spec_BlameLine blineB
  rw [sBlameOf_eq h, Option.bind_some, l1In_eq, Option.bind_some, low_ix (show (blameB r a p).length ≤ maxi by unfold maxi; omega)]
  cases hk : decide (0 ≤ k) && decide (k ≤ ((blameB r a p).length : Int) - 1) with
  | false => rfl
  | true =>
    simp only [Bool.and_eq_true, decide_eq_true_eq] at hk
    obtain ⟨hr, hu, eB⟩ := blameB_some (r := r) (a := a) (p := p) (fun e => by rw [e] at hk; simp at hk; omega)
    obtain ⟨u0, u1⟩ := upB_iff.1 hu
    rw [eB] at hk hlen ⊢
    have e := bline_l1 h hr p a.toNat a.toNat (a.toNat + 2) k.toNat [] (Nat.le_refl _) (by omega) (by omega) (by rw [← blN_len r p a.toNat]; omega) (by simp; omega)
    rw [show ((a.toNat : Nat) : Int) = a by omega, show ((k.toNat : Nat) : Int) = k by omega] at e
    simp only [Bool.not_true, cond_false, cond_true, jn]
    rw [e]
    rfl
theorem blame_line {r : Repo} (hr : repoB r = true) {p : Str} {a k : Nat} (ha : a < r.Commits.length) (hk : k < (blT r p a).length) : ∃ c : Nat, (blN r p a a).getD k 0 = (c : Int) ∧ (c : Int) ∈ lineN r (a + 1) a := by
  obtain ⟨c, c1, c2, _⟩ := blN_ok hr (p := p) a a (Nat.le_refl _) ha k hk
  exact ⟨c, c1, c2⟩
theorem iBlameLine_eq {r : Repo} (h : RpB r) (hcm : r.Commits.length ≤ 100) (a : Int) (p : Str) (k : Int) : impl_BlameLine r a p k = some (blineB r a p k) := by
  have hlen := blameB_len h a p
  unfold impl_BlameLine blineB
  rw [iBlameOf_eq h, Option.bind_some, within_eq, Option.bind_some, low_ix (show (blameB r a p).length ≤ maxi by unfold maxi; omega)]
  cases hk : decide (0 ≤ k) && decide (k ≤ ((blameB r a p).length : Int) - 1) with
  | false => rfl
  | true =>
    simp only [Bool.and_eq_true, decide_eq_true_eq] at hk
    obtain ⟨hr, hu, eB⟩ := blameB_some (r := r) (a := a) (p := p) (fun e => by rw [e] at hk; simp at hk; omega)
    obtain ⟨u0, u1⟩ := upB_iff.1 hu
    rw [eB] at hk hlen ⊢
    have hbl := blN_len r p a.toNat a.toNat
    obtain ⟨c, c1, c2⟩ := blame_line hr (p := p) (a := a.toNat) (k := k.toNat) (by omega) (by omega)
    have hll := lineN_len r (a.toNat + 1) a.toNat
    have gk : gi (blN r p a.toNat a.toNat) k = some (c : Int) := by
      have := gi_getI (l := blN r p a.toNat a.toNat) (i := k.toNat) (by omega)
      rwa [show ((k.toNat : Nat) : Int) = k by omega, c1] at this
    have hix := List.idxOf_lt_length_of_mem c2
    rw [Bool.not_true, cond_false, cond_true, iLine_eq hr u0 u1, Option.bind_some, gk, Option.bind_some, indexI_eq (by omega), Option.bind_some, placeB_in c2, c1]
    unfold plI
    rw [w64_id (by omega) (by omega), slM_of (by omega) (by omega) (by omega), Option.bind_some]
    unfold upTo
    rw [show ((((lineN r (a.toNat + 1) a.toNat).idxOf (c : Int) : Nat) : Int) + 1).toNat = (lineN r (a.toNat + 1) a.toNat).idxOf (c : Int) + 1 by omega]
    rfl
theorem drawBlameLine_eq {code : List Byte} (h : code.length ≤ 1048576) : ∃ x a p k, spec_DrawBlameLine code = some (x, a, p, k) ∧ Drawn x := by
  unfold spec_DrawBlameLine
  obtain ⟨x, a, p, e, hx, _⟩ := drawBlameOf_eq h
  exact ⟨x, a, p, _, by rw [e]; rfl, hx⟩
theorem upTo_has {r : Repo} (hr : repoB r = true) {p : Str} {s : Str} : ∀ (f a k : Nat), a ≤ f → a < r.Commits.length → (blT r p a)[k]? = some s → ∀ y ∈ upTo r f a ((blN r p f a).getD k 0), ∃ c : Nat, y = (c : Int) ∧ c ≤ a ∧ s ∈ blT r p c
  | f, a, k, hf, ha, hs, y, hy => by
    have hk := (List.getElem?_eq_some_iff.1 hs).1
    by_cases hc : (a : Int) = (blN r p f a).getD k 0
    · rw [← hc, upTo_self] at hy
      simp only [List.mem_cons, List.not_mem_nil, or_false] at hy
      exact ⟨a, hy, Nat.le_refl _, List.mem_of_getElem? hs⟩
    · cases hp : parsAt r a with
      | nil =>
        exfalso
        apply hc
        rw [blN_nil hp, List.getD_eq_getElem?_getD, List.getElem?_replicate, if_pos hk]
        rfl
      | cons q ps =>
        obtain ⟨p0, p1, p2, p3⟩ := first_at hr ha hp
        obtain ⟨g, rfl⟩ : ∃ g, f = g + 1 := ⟨f - 1, by omega⟩
        rcases blN_at (r := r) (p := p) (f := g) hk with ⟨q', ps', i, hpq, hm, hi, e⟩ | ⟨e, _⟩
        · rw [hp] at hpq
          cases hpq
          rw [upTo_cons hp hc] at hy
          rcases List.mem_cons.1 hy with q1 | q1
          · exact ⟨a, q1, Nat.le_refl _, List.mem_of_getElem? hs⟩
          · rw [e] at q1
            obtain ⟨s', s1, s2⟩ := mt2_same hm (by omega)
            rw [Int.toNat_natCast, hs] at s2
            cases s2
            obtain ⟨c, c1, c2, c3⟩ := upTo_has hr g q.toNat i (by omega) p2 s1 y q1
            exact ⟨c, c1, by omega, c3⟩
        · exact absurd e.symm hc
theorem FnBlameLine_eq {code : List Byte} (h : Bk.fit code) : laws_FnBlameLine code = some true := by
  unfold laws_FnBlameLine
  by_cases hc : (1048576 : Int) < (code.length : Int)
  · rw [decide_eq_true hc]; rfl
  obtain ⟨x, a, p, k, e, hx⟩ := drawBlameLine_eq (code := code) (by omega)
  have hb := hx.rb
  have hcm := hx.coms
  rw [decide_eq_false hc, cond_false, e, Option.bind_some]
  simp only [repo_eta, sBlameLine_eq hb (show x.Commits.length ≤ 100 by omega), iBlameLine_eq hb (show x.Commits.length ≤ 100 by omega), Option.bind_some, jn]
  cases hk : decide (0 ≤ k) && decide (k ≤ ((blameB x a p).length : Int) - 1) with
  | false =>
    have e0 : blineB x a p k = [] := by unfold blineB; rw [hk]; rfl
    rw [e0, smInts_eq (by simp)]
    rfl
  | true =>
    have eL : blineB x a p k = upTo x a.toNat a.toNat ((blameB x a p).getD k.toNat 0) := by unfold blineB; rw [hk]; rfl
    simp only [Bool.and_eq_true, decide_eq_true_eq] at hk
    obtain ⟨hr, hu, eB⟩ := blameB_some (r := x) (a := a) (p := p) (fun e => by rw [e] at hk; simp at hk; omega)
    obtain ⟨u0, u1⟩ := upB_iff.1 hu
    have hBl := blN_len x p a.toNat a.toNat
    rw [eB] at hk eL
    obtain ⟨n, rfl⟩ := Int.eq_ofNat_of_zero_le u0
    rw [Int.toNat_natCast] at *
    obtain ⟨j, rfl⟩ := Int.eq_ofNat_of_zero_le hk.1
    rw [Int.toNat_natCast] at *
    have ha : n < x.Commits.length := by omega
    have hj : j < (blT x p n).length := by omega
    obtain ⟨c, c1, c2⟩ := blame_line hr (p := p) ha hj
    have hix := List.idxOf_lt_length_of_mem c2
    have hll := lineN_len x (n + 1) n
    have hul : (upTo x n n ((blN x p n n).getD j 0)).length = (lineN x (n + 1) n).idxOf (c : Int) + 1 := by
      rw [c1]
      unfold upTo
      rw [List.length_take]
      omega
    have eA : lineB' x (n : Int) = lineN x (n + 1) n := by unfold lineB'; rw [hr, hu, Int.toNat_natCast]; rfl
    have gs : gi (blT x p n) (j : Int) = some (blT x p n)[j] := gi_of (List.getElem?_eq_getElem hj)
    rw [eL, smInts_eq (by rw [hul]; omega)]
    simp only [beq_self_eq_true, Option.bind_some, Bool.not_true, cond_false]
    rw [beq_false_of_ne (by rw [hul]; omega), cond_false]
    simp only [com_atN ha, Option.bind_some, show (x.Commits.getD n noCommit).Tree = treeAt x n from rfl, treeGet_eq hb hr ha, iAncLine_eq hb, eA, fuel0]
    rw [loop_all (n := (upTo x n n ((blN x p n n).getD j 0)).length) (g := fun _ => true) (r0 := some false) (Z := some true) (f := fun m i => laws_FnBlameLine_l1 (x, (n : Int), p, (j : Int)) (upTo x n n ((blN x p n n).getD j 0)) (lineN x (n + 1) n) (getT (treeAt x n) p) _ m false i) (fun m i hi => by
      have hy : (upTo x n n ((blN x p n n).getD j 0))[i]? = some (upTo x n n ((blN x p n n).getD j 0))[i] := List.getElem?_eq_getElem hi
      obtain ⟨c', d1, d2, d3⟩ := upTo_has hr n n j (Nat.le_refl _) ha (List.getElem?_eq_getElem hj) _ (List.getElem_mem hi)
      have hcl : c' < x.Commits.length := by omega
      have hsc := blT_small hb hr hcl p
      have hz : (lineN x (n + 1) n)[i]? = some (c' : Int) := by
        rw [← d1, ← hy]
        unfold upTo
        rw [List.getElem?_take, if_pos (by have := hul; unfold upTo at this hi; rw [List.length_take] at hi; omega)]
      rw [d1] at hy
      simp only [laws_FnBlameLine_l1, jn, lt_of hy, gi_of hy, gi_of hz, cond_true, Option.bind_some, com_atN hcl, show (x.Commits.getD c' noCommit).Tree = treeAt x c' from rfl, treeGet_eq hb hr hcl, bne_self_eq_false, cond_false]
      rw [show (getT (treeAt x n) p).1 = blT x p n from rfl, gs, Option.bind_some, show (getT (treeAt x c') p).1 = blT x p c' from rfl, lawHas_eq (show (blT x p c').length ≤ maxi by unfold maxi; omega), decide_eq_true d3, Option.bind_some, Bool.not_true, cond_false, w64_ix hi (show (upTo x n n ((blN x p n n).getD j 0)).length ≤ maxi by unfold maxi; omega)]) (fun m => by
      simp only [laws_FnBlameLine_l1, end_of, cond_false, iBlameOf_eq hb, eB, Option.bind_some, Int.toNat_natCast]
      have g1 : gi (blN x p n n) (j : Int) = some (c : Int) := by rw [gi_getI (by omega), c1]
      have g2 : gi (upTo x n n ((blN x p n n).getD j 0)) (w64 (((upTo x n n ((blN x p n n).getD j 0)).length : Int) - 1)) = some (c : Int) := by
        rw [hul, w64_id (by omega) (by omega), show ((((lineN x (n + 1) n).idxOf (c : Int) + 1 : Nat) : Int) - 1) = (((lineN x (n + 1) n).idxOf (c : Int) : Nat) : Int) by omega]
        refine gi_of ?_
        rw [c1]
        unfold upTo
        rw [List.getElem?_take, if_pos (by omega), List.getElem?_eq_getElem hix, List.getElem_idxOf hix]
      rw [g1, g2]
      simp) _ (by omega), allN_iff.2 (fun _ _ _ => rfl), cond_true]
end Go.Vm
namespace Go.Vm
open Go Go.Sx
set_option linter.unusedSimpArgs false
set_option linter.unusedVariables false
theorem AscI.lt {l : List Int} (h : AscI l) {i k : Nat} (hik : i < k) (hk : k < l.length) : l.getD i 0 < l.getD k 0 := by
  have h1 : i < l.length := by omega
  have := List.pairwise_iff_getElem.1 h i k h1 hk hik
  rw [getI_of (List.getElem?_eq_getElem h1), getI_of (List.getElem?_eq_getElem hk)]
  exact this
theorem AscI.inj {l : List Int} (h : AscI l) {i k : Nat} (hi : i < l.length) (hk : k < l.length) (e : l.getD i 0 = l.getD k 0) : i = k := by
  rcases Nat.lt_trichotomy i k with h1 | h1 | h1
  · have := h.lt h1 hk; omega
  · exact h1
  · have := h.lt h1 hi; omega
end Go.Vm
