/- Plain law FnBlameOf, and what it uses: what the models answer. Conditions: each law's own premises. -/
import Derived.Test.YtidkloialdageaaGreatDoorCGFnBlameOfa
namespace Go.Vm
open Go Go.Sx
set_option linter.unusedSimpArgs false
set_option linter.unusedVariables false
set_option linter.unusedSectionVars false
theorem get_eq {t : List File} (h : TB t) (p : Str) : impl_get t p = some (getT t p) := by
  have hm := h.maxi
  unfold impl_get getT
  simp only [jn, fuel0]
  rw [loop_find (p := fun f : File => f.Path == p) (xs := t) (r := fun f => some (f.Text, true)) (Z := some ([], false)) (f := fun m k => impl_get_l1 t p _ m [] false k) (fun m i x hx => by
    have hf := h.at_ hx
    simp only [impl_get_l1, lt_of hx, gi_of hx, cond_true, Option.bind_some, copyText_eq hf.len, w64_ix (ix_of hx) hm]) (fun m => by simp only [impl_get_l1, end_of, cond_false]) (by omega)]
  cases t.find? (fun f => f.Path == p) <;> rfl
section
variable {r : Repo} (h : RpB r) (hr : repoB r = true) {a : Nat} (ha : a < r.Commits.length)
include h hr ha
theorem tree_facts : TB (treeAt r a) ∧ treeB (treeAt r a) = true ∧ textsB (treeAt r a) := by
  have ua : upB r.Commits.length (a : Int) = true := upB_iff.2 (by omega)
  have ht := tree_at_tb h ua
  rw [Int.toNat_natCast] at ht
  have := repo_com hr ha
  unfold comB at this
  simp only [Bool.and_eq_true] at this
  exact ⟨ht, this.2.2.2.2, tree_texts this.2.2.2.2⟩
theorem blT_text (p : Str) : textB (blT r p a) = true := getT_text (tree_facts h hr ha).2.2 p
theorem blT_small (p : Str) : (blT r p a).length ≤ 10 := textB_len (blT_text h hr ha p)
theorem blT_fit (p : Str) : Bk.fit (blT r p a) := (getT_tb (tree_facts h hr ha).1 p).2
theorem treeGet_eq (p : Str) : impl_TreeGet (treeAt r a) p = some (getT (treeAt r a) p) := by
  obtain ⟨t1, t2, t3⟩ := tree_facts h hr ha
  unfold impl_TreeGet
  rw [TreeOk_eq t1, t2, Option.bind_some, Bool.not_true, cond_false, get_eq t1, Option.bind_some]
end
theorem blT_not {r : Repo} {p : Str} {a : Nat} (h : (getT (treeAt r a) p).2 = false) : blT r p a = [] := by
  unfold blT getT at *
  cases hf : (treeAt r a).find? (fun f => f.Path == p) with
  | none => rfl
  | some f => rw [hf] at h; cases h
theorem zip_at {m by_ : List Int} {i : Nat} {z : Int × Int} (h : (m.zip by_)[i]? = some z) : m[i]? = some z.1 ∧ by_[i]? = some z.2 := List.getElem?_zip_eq_some.1 h
theorem gi_getA {d : List Int} {p : Int} (h0 : 0 ≤ p) (h : p.toNat < d.length) : gi d p = some (d.getD p.toNat 0) := by
  have := gi_getI (l := d) h
  rwa [show ((p.toNat : Nat) : Int) = p by omega] at this
theorem ov_up {out : List Int} {z : Int × Int} (h0 : 0 ≤ z.1) (h1 : z.1 < (out.length : Int)) : (∃ u, gi out z.1 = some u) ∧ siM out z.1 z.2 = some (ovS out z) := by
  have hl : z.1.toNat < out.length := by omega
  refine ⟨⟨_, gi_getA h0 hl⟩, ?_⟩
  have := siM_of hl z.2
  rw [show ((z.1.toNat : Nat) : Int) = z.1 by omega] at this
  rw [this]
  unfold ovS
  rw [decide_eq_true h0]
  rfl
theorem ovS_no {out : List Int} {z : Int × Int} (h0 : ¬ 0 ≤ z.1) : ovS out z = out := by
  unfold ovS
  rw [decide_eq_false h0]
  rfl
theorem sov_l2 {m by_ out : List Int} (hl : m.length = by_.length) (hm : m.length ≤ 1000) (hin : ∀ x ∈ m, x < (out.length : Int)) {K : Int → List Int → Option (List Int)} : spec_l11Of_l2 by_ m K (m.length + 1) 0 out = K (m.length : Int) (ovL out m by_) := by
  have hz : (m.zip by_).length = m.length := by rw [List.length_zip]; omega
  have e := loop_fold0 (xs := m.zip by_) (g := ovS) (I := fun s => s.length = out.length) (Z := fun s => K (m.length : Int) s) (f := fun n i s => spec_l11Of_l2 by_ m K n i s) (s := out) rfl (fun n i z s hz' hs => by
    obtain ⟨h1, h2⟩ := zip_at hz'
    have hix := ix_of h1
    refine ⟨?_, by rw [ovS_len]; exact hs⟩
    simp only [spec_l11Of_l2, jn, lt_of h1, gi_of h1, gi_of h2, cond_true, Option.bind_some, w64_ix hix (show m.length ≤ maxi by unfold maxi; omega)]
    by_cases h0 : 0 ≤ z.1
    · obtain ⟨⟨u, e1⟩, e2⟩ := ov_up h0 (by rw [hs]; exact hin _ (List.mem_of_getElem? h1))
      rw [decide_eq_true h0, cond_true, e1, Option.bind_some, e2, Option.bind_some]
    · rw [decide_eq_false h0, cond_false, ovS_no h0]) (fun n s _ => by
    rw [hz]
    simp only [spec_l11Of_l2, end_of, cond_false])
  rw [hz] at e
  exact e
theorem iov_l2 {m : List Int} {out : List Int} {w : List Int × Bool} (hl : m.length = w.1.length) (hm : m.length ≤ 1000) (hin : ∀ x ∈ m, x < (out.length : Int)) {K : Int → List Int → Option (List Int × Bool)} : impl_Repo_blame_l2 w m K (m.length + 1) 0 out = K (m.length : Int) (ovL out m w.1) := by
  have hz : (m.zip w.1).length = m.length := by rw [List.length_zip]; omega
  have e := loop_fold0 (xs := m.zip w.1) (g := ovS) (I := fun s => s.length = out.length) (Z := fun s => K (m.length : Int) s) (f := fun n i s => impl_Repo_blame_l2 w m K n i s) (s := out) rfl (fun n i z s hz' hs => by
    obtain ⟨h1, h2⟩ := zip_at hz'
    have hix := ix_of h1
    refine ⟨?_, by rw [ovS_len]; exact hs⟩
    simp only [impl_Repo_blame_l2, jn, lt_of h1, gi_of h1, gi_of h2, cond_true, Option.bind_some, w64_ix hix (show m.length ≤ maxi by unfold maxi; omega)]
    by_cases h0 : 0 ≤ z.1
    · obtain ⟨⟨u, e1⟩, e2⟩ := ov_up h0 (by rw [hs]; exact hin _ (List.mem_of_getElem? h1))
      rw [decide_eq_true h0, cond_true, e1, Option.bind_some, e2, Option.bind_some]
    · rw [decide_eq_false h0, cond_false, ovS_no h0]) (fun n s _ => by
    rw [hz]
    simp only [impl_Repo_blame_l2, end_of, cond_false])
  rw [hz] at e
  exact e
theorem sfill_l1 {a : Int} {w : List Str × Bool} (hw : w.1.length ≤ 1000) {K : List Int → Int → Option (List Int)} : ∀ (k i m : Nat), i + k = w.1.length → k < m → spec_l11Of_l1 a w K m (List.replicate i a) (i : Int) = K (List.replicate w.1.length a) (w.1.length : Int)
  | k, i, 0, _, hm => by omega
  | 0, i, m + 1, hi, _ => by
    obtain rfl : i = w.1.length := by omega
    simp only [spec_l11Of_l1, end_of, cond_false]
  | k + 1, i, m + 1, hi, hm => by
    have hlt : i < w.1.length := by omega
    simp only [spec_l11Of_l1]
    rw [decide_eq_true (by omega), cond_true, ap1 (by simp; omega), Option.bind_some, w64_ix hlt (show w.1.length ≤ maxi by unfold maxi; omega), ← List.replicate_succ']
    exact sfill_l1 hw k (i + 1) m (by omega) (by omega)
theorem fillA (a : Int) (k i : Nat) : (List.replicate i a ++ List.replicate (k + 1) (0 : Int)).set i a = List.replicate (i + 1) a ++ List.replicate k 0 := by
  have h : (List.replicate i a).length = i := by simp
  rw [List.set_append_right _ _ (by rw [h]; exact Nat.le_refl _), h, Nat.sub_self, List.replicate_succ, List.set_cons_zero, List.replicate_succ', List.append_assoc]
  rfl
theorem ifill_l1 {a : Int} {q : List Int} (hq : q.length ≤ 1000) {K : Int → List Int → Option (List Int × Bool)} : ∀ (k i m : Nat), i + k = q.length → k < m → impl_Repo_blame_l1 a q K m (i : Int) (List.replicate i a ++ List.replicate k 0) = K (q.length : Int) (List.replicate q.length a)
  | k, i, 0, _, hm => by omega
  | 0, i, m + 1, hi, _ => by
    obtain rfl : i = q.length := by omega
    simp only [impl_Repo_blame_l1, end_of, cond_false, List.replicate_zero, List.append_nil]
  | k + 1, i, m + 1, hi, hm => by
    have hlt : i < q.length := by omega
    have hl : i < (List.replicate i a ++ List.replicate (k + 1) (0 : Int)).length := by simp only [List.length_append, List.length_replicate]; omega
    simp only [impl_Repo_blame_l1]
    rw [decide_eq_true (by omega), cond_true, gi_getI hl, Option.bind_some, siM_of hl, Option.bind_some, w64_ix hlt (show q.length ≤ maxi by unfold maxi; omega), fillA]
    exact ifill_l1 hq k (i + 1) m (by omega) (by omega)
theorem mt2_lt {a b : List Str} : ∀ x ∈ mt2 a b, x < (b.length : Int) := fun x hx => by
  obtain ⟨i, hi⟩ := List.getElem?_of_mem hx
  have := (mt2_in hi).2
  omega
theorem com_atN {r : Repo} {a : Nat} (ha : a < r.Commits.length) : gi r.Commits (a : Int) = some (r.Commits.getD a noCommit) := com_at ha
theorem blN_one {r : Repo} {p : Str} {f a : Nat} (h : blT r p a = []) : blN r p f a = [] := List.eq_nil_of_length_eq_zero (by rw [blN_len, h]; rfl)
theorem blN_alone {r : Repo} {p : Str} {f a : Nat} {q : Int} {ps : List Int} (hp : parsAt r a = q :: ps) (hq : blT r p q.toNat = []) : blN r p (f + 1) a = List.replicate (blT r p a).length (a : Int) := by
  rw [blN_cons hp, hq]
  unfold mt2 ovL
  rw [mtF_nil]
  rfl
theorem s11_eq {r : Repo} (h : RpB r) (hr : repoB r = true) (p : Str) : ∀ (f a m : Nat), a ≤ f → a < r.Commits.length → f < m → spec_l11Of_r m r (a : Int) p = some (blN r p f a)
  | f, a, 0, _, _, hm => by omega
  | f, a, m + 1, hf, ha, hm => by
    obtain ⟨t1, t2, t3⟩ := tree_facts h hr ha
    have hsm := blT_small h hr ha p
    simp only [spec_l11Of_r, com_atN ha, Option.bind_some]
    rw [show (r.Commits.getD a noCommit).Tree = treeAt r a from rfl, l4Get_eq t1, Option.bind_some]
    cases hg : (getT (treeAt r a) p).2 with
    | false => rw [Bool.not_false, cond_true, blN_one (blT_not hg)]
    | true =>
      rw [Bool.not_true, cond_false]
      simp only [jn, fuel0]
      have e := sfill_l1 (a := (a : Int)) (w := getT (treeAt r a) p) (show (blT r p a).length ≤ 1000 by omega) (K := fun (y19 : List Int) (y22 : Int) =>
        bif ((((r.Commits.getD a noCommit).Parents.length : Int) : Int) == (0 : Int)) then
          (some y19)
        else
          ((gi (r.Commits.getD a noCommit).Parents 0).bind fun u52 =>
          (gi r.Commits u52).bind fun u54 =>
          (Vm.spec_l4Get u54.Tree p).bind fun z59 =>
          bif (!z59.2) then
            (some y19)
          else
            ((Vm.spec_l11Of_r m r u52 p).bind fun z69 =>
            (Vm.spec_l1Match z59.1 (getT (treeAt r a) p).1).bind fun z77 =>
            spec_l11Of_l2 z69 z77 (fun (_ : Int) (y85 : List Int) => some y85) (z77.length + 1) 0 y19))) (blT r p a).length 0 ((blT r p a).length + 1) (by show 0 + (blT r p a).length = (blT r p a).length; omega) (by omega)
      refine e.trans ?_
      show (bif (((parsAt r a).length : Int) == (0 : Int)) then some (List.replicate (blT r p a).length (a : Int)) else (gi (parsAt r a) 0).bind _) = _
      cases hp : parsAt r a with
      | nil => rw [blN_nil hp]; rfl
      | cons q ps =>
        obtain ⟨p0, p1, p2, p3⟩ := first_at hr ha hp
        obtain ⟨q1, q2, q3⟩ := tree_facts h hr p2
        have hsq := blT_small h hr p2 p
        obtain ⟨g, rfl⟩ : ∃ g, f = g + 1 := ⟨f - 1, by omega⟩
        have g0 : gi (q :: ps) 0 = some q := rfl
        have gq : gi r.Commits q = some (r.Commits.getD q.toNat noCommit) := by rw [← p3]; exact com_atN p2
        rw [beq_false_of_ne (by simp only [List.length_cons]; omega), cond_false, g0, Option.bind_some, gq, Option.bind_some, show (r.Commits.getD q.toNat noCommit).Tree = treeAt r q.toNat from rfl, l4Get_eq q1, Option.bind_some]
        cases hg2 : (getT (treeAt r q.toNat) p).2 with
        | false => rw [Bool.not_false, cond_true, blN_alone hp (blT_not hg2)]; rfl
        | true =>
          have ih := s11_eq h hr p g q.toNat m (by omega) p2 (by omega)
          rw [p3] at ih
          rw [Bool.not_true, cond_false, ih, Option.bind_some]
          show (spec_l1Match (blT r p q.toNat) (blT r p a)).bind _ = _
          rw [smatch_eq (by omega) (by omega), Option.bind_some]
          obtain ⟨_, hl⟩ := mt2_asc (blT r p q.toNat) (blT r p a)
          rw [sov_l2 (by rw [hl, blN_len]) (by rw [hl]; omega) (by rw [List.length_replicate]; exact mt2_lt), blN_cons hp]
          rfl
theorem blame_eq {r : Repo} (h : RpB r) (hr : repoB r = true) (p : Str) : ∀ (f a m : Nat), a ≤ f → a < r.Commits.length → f < m → impl_Repo_blame_r m r (a : Int) p = some (blN r p f a, (getT (treeAt r a) p).2)
  | f, a, 0, _, _, hm => by omega
  | f, a, m + 1, hf, ha, hm => by
    obtain ⟨t1, t2, t3⟩ := tree_facts h hr ha
    have ua : upB r.Commits.length (a : Int) = true := upB_iff.2 (by omega)
    have hsm := blT_small h hr ha p
    have et := iTree_at h hr ua
    rw [Int.toNat_natCast] at et
    simp only [impl_Repo_blame_r, et, Option.bind_some, get_eq t1]
    cases hg : (getT (treeAt r a) p).2 with
    | false => rw [Bool.not_false, cond_true, blN_one (blT_not hg)]
    | true =>
      rw [Bool.not_true, cond_false]
      show (mkM ((blT r p a).length : Int) (0 : Int)).bind _ = _
      rw [mkM_of (by unfold lim; omega), Option.bind_some]
      simp only [jn, fuel0]
      have e := ifill_l1 (a := (a : Int)) (q := List.replicate (blT r p a).length 0) (by rw [List.length_replicate]; omega) (K := fun (_ : Int) (y25 : List Int) =>
        (Vm.impl_Repo_first r (a : Int)).bind fun z44 =>
        bif decide ((z44 : Int) < (0 : Int)) then
          (some (y25, true))
        else
          ((Vm.impl_Repo_blame_r m r z44 p).bind fun z54 =>
          bif (!z54.2) then
            (some (y25, true))
          else
            ((Vm.impl_Repo_tree r z44).bind fun z64 =>
            (Vm.impl_get z64 p).bind fun z73 =>
            (Vm.impl_match z73.1 (getT (treeAt r a) p).1).bind fun z81 =>
            impl_Repo_blame_l2 z54 z81 (fun (_ : Int) (y93 : List Int) => some (y93, true)) (z81.length + 1) 0 y25))) (blT r p a).length 0 ((List.replicate (blT r p a).length (0 : Int)).length + 1) (by rw [List.length_replicate]; omega) (by rw [List.length_replicate]; omega)
      refine e.trans ?_
      rw [List.length_replicate, ifirst_eq hr ha, Option.bind_some]
      cases hp : parsAt r a with
      | nil =>
        simp only
        rw [decide_eq_true (by omega), cond_true, blN_nil hp]
      | cons q ps =>
        obtain ⟨p0, p1, p2, p3⟩ := first_at hr ha hp
        obtain ⟨q1, q2, q3⟩ := tree_facts h hr p2
        have hsq := blT_small h hr p2 p
        have uq : upB r.Commits.length q = true := upB_iff.2 (by omega)
        obtain ⟨g, rfl⟩ : ∃ g, f = g + 1 := ⟨f - 1, by omega⟩
        have ih := blame_eq h hr p g q.toNat m (by omega) p2 (by omega)
        rw [p3] at ih
        simp only
        rw [decide_eq_false (by omega), cond_false, ih, Option.bind_some]
        cases hg2 : (getT (treeAt r q.toNat) p).2 with
        | false =>
          rw [Bool.not_false, cond_true, blN_alone hp (blT_not hg2)]
        | true =>
          rw [Bool.not_true, cond_false, iTree_at h hr uq, Option.bind_some, get_eq q1, Option.bind_some]
          show (impl_match (blT r p q.toNat) (blT r p a)).bind _ = _
          rw [imatch_eq (by omega) (by omega), Option.bind_some]
          obtain ⟨_, hl⟩ := mt2_asc (blT r p q.toNat) (blT r p a)
          rw [iov_l2 (w := (blN r p g q.toNat, true)) (by rw [hl, blN_len]) (by rw [hl]; omega) (by rw [List.length_replicate]; exact mt2_lt), blN_cons hp]
def blameB (r : Repo) (a : Int) (p : Str) : List Int := bif repoB r && upB r.Commits.length a then blN r p a.toNat a.toNat else []
theorem s11Of_eq {r : Repo} (h : RpB r) (hr : repoB r = true) {a : Nat} (ha : a < r.Commits.length) (p : Str) : spec_l11Of r (a : Int) p = some (blN r p a a) := by
  unfold spec_l11Of
  exact s11_eq h hr p a a _ (Nat.le_refl _) ha (by omega)
theorem sBlameOf_eq {r : Repo} (h : RpB r) (a : Int) (p : Str) : spec_BlameOf r a p = some (blameB r a p) := by
  unfold spec_BlameOf blameB
  simp only [jn, l7Ok_eq h, l1In_eq, low_ix (to_maxi h.coms), Option.bind_some]
  rw [show (decide ((0 : Int) ≤ a) && decide (a ≤ (r.Commits.length : Int) - 1)) = upB r.Commits.length a from rfl]
  cases hr : repoB r with
  | false => rfl
  | true =>
    cases ha : upB r.Commits.length a with
    | false => rfl
    | true =>
      obtain ⟨a0, a1⟩ := upB_iff.1 ha
      have e := s11Of_eq h hr (a := a.toNat) (by omega) p
      rw [show ((a.toNat : Nat) : Int) = a by omega] at e
      simp only [Bool.not_true, cond_false, Bool.and_true, cond_true, e, Option.bind_some]
theorem iBlameOf_eq {r : Repo} (h : RpB r) (a : Int) (p : Str) : impl_BlameOf r a p = some (blameB r a p) := by
  unfold impl_BlameOf blameB
  rw [are_eq h (by simp), Option.bind_some]
  simp only [List.all_cons, List.all_nil, Bool.and_true]
  cases hr : repoB r && upB r.Commits.length a with
  | false => rfl
  | true =>
    simp only [Bool.and_eq_true] at hr
    obtain ⟨a0, a1⟩ := upB_iff.1 hr.2
    have e := blame_eq h hr.1 p a.toNat a.toNat (a.toNat + 2) (Nat.le_refl _) (by omega) (by omega)
    rw [show ((a.toNat : Nat) : Int) = a by omega] at e
    unfold impl_Repo_blame
    rw [Bool.not_true, cond_false, cond_true, e]
    rfl
theorem blameB_len {r : Repo} (h : RpB r) (a : Int) (p : Str) : (blameB r a p).length ≤ 10 := by
  unfold blameB
  cases hr : repoB r && upB r.Commits.length a with
  | false => simp
  | true =>
    simp only [Bool.and_eq_true] at hr
    obtain ⟨a0, a1⟩ := upB_iff.1 hr.2
    rw [cond_true, blN_len]
    exact blT_small h hr.1 (by omega) p
theorem blameB_some {r : Repo} {a : Int} {p : Str} (h : blameB r a p ≠ []) : repoB r = true ∧ upB r.Commits.length a = true ∧ blameB r a p = blN r p a.toNat a.toNat := by
  unfold blameB at h ⊢
  cases hr : repoB r && upB r.Commits.length a with
  | false => rw [hr] at h; exact absurd rfl h
  | true =>
    simp only [Bool.and_eq_true] at hr
    exact ⟨hr.1, hr.2, rfl⟩
theorem drawBlameOf_eq {code : List Byte} (h : code.length ≤ 1048576) : ∃ x a p, spec_DrawBlameOf code = some (x, a, p) ∧ Drawn x ∧ -1 ≤ a ∧ a ≤ 16 ∧ p.length ≤ 1048576 := by
  unfold spec_DrawBlameOf
  obtain ⟨b, e, hr⟩ := open0 h
  obtain ⟨x, q, e2, hx, r2⟩ := anyRepo_eq hr (by omega)
  obtain ⟨a, e3, a0, a1⟩ := l30At_eq r2 (by omega) hx
  have hcm := hx.coms
  have r3 : RdOk ⟨b, q + 1 + 1⟩ (0 + 2010 + 2) := rd_on (r := ⟨b, q + 1⟩) (rd_on (r := ⟨b, q⟩) (q := 0 + 2010 + 1) r2 (by omega) (by omega)) (by omega) (by omega)
  simp only [e, Option.bind_some, e2, repo_eta, e3, jn, l1In_eq, low_ix (to_maxi hx.rb.coms)]
  have hP : ∀ {qq p : Int}, RdOk ⟨b, qq⟩ p → p ≤ 200000 → ∃ s : Str, ((spec_l30Path ⟨b, qq⟩).bind fun z261 => some (x, a, z261.1)) = some (x, a, s) ∧ s.length ≤ 1048576 := fun {qq p} hq hp => by
    obtain ⟨s, es, hs⟩ := path_eq hq (by omega)
    exact ⟨s, by rw [es]; rfl, by omega⟩
  cases hu : (decide ((0 : Int) ≤ a) && decide (a ≤ (x.Commits.length : Int) - 1)) with
  | false =>
    obtain ⟨s, es, hs⟩ := hP r3 (by omega)
    exact ⟨x, a, s, by simp only [cond_false]; exact es, hx, a0, a1, hs⟩
  | true =>
    simp only [Bool.and_eq_true, decide_eq_true_eq] at hu
    have hg := com_atI hu.1 hu.2
    have ht := tree_at_tb hx.rb (upB_iff.2 hu)
    unfold treeAt at ht
    have htl := ht.1
    simp only [cond_true, hg, Option.bind_some]
    by_cases h0 : 0 < (x.Commits.getD a.toNat noCommit).Tree.length
    · obtain ⟨k, e4, k0, k1⟩ := pick_eq r3 (n := 4) (by omega) (by omega) (by omega)
      have r4 : RdOk ⟨b, q + 1 + 1 + 1⟩ (0 + 2010 + 3) := rd_on (r := ⟨b, q + 1 + 1⟩) r3 (k := 1) (by omega) (by omega)
      simp only at e4
      rw [decide_eq_true (by omega), cond_true, e4, Option.bind_some]
      simp only
      cases decide ((0 : Int) < k) with
      | false =>
        obtain ⟨s, es, hs⟩ := hP r4 (by omega)
        exact ⟨x, a, s, by simp only [cond_false]; exact es, hx, a0, a1, hs⟩
      | true =>
        obtain ⟨j, e5, j0, j1⟩ := pick_eq r4 (n := ((x.Commits.getD a.toNat noCommit).Tree.length : Int)) (by omega) (by omega) (by omega)
        simp only [cond_true] at e5 ⊢
        rw [e5, Option.bind_some]
        have hj : j.toNat < (x.Commits.getD a.toNat noCommit).Tree.length := by omega
        have gj : gi (x.Commits.getD a.toNat noCommit).Tree j = some ((x.Commits.getD a.toNat noCommit).Tree[j.toNat]) := by
          have := gi_of (List.getElem?_eq_getElem hj)
          rwa [show ((j.toNat : Nat) : Int) = j by omega] at this
        simp only
        rw [gj, Option.bind_some]
        exact ⟨x, a, _, rfl, hx, a0, a1, (ht.2 _ (List.getElem_mem hj)).path⟩
    · obtain ⟨s, es, hs⟩ := hP r3 (by omega)
      exact ⟨x, a, s, by rw [decide_eq_false (by omega), cond_false]; simp only [cond_false]; exact es, hx, a0, a1, hs⟩
theorem hasB_nat {l : List Int} {n : Int} (h : n ∈ l) : hasB l n = true := hasB_iff.2 h
theorem lawHas_eq {xs : List Str} {s : Str} (h : xs.length ≤ maxi) : laws_smHas xs s = some (decide (s ∈ xs)) := by
  unfold laws_smHas
  simp only [jn, fuel0]
  rw [loop_find (p := fun x : Str => x == s) (xs := xs) (r := fun _ => some true) (Z := some false) (f := fun m k => laws_smHas_l1 xs s _ m false k) (fun m i x hx => by
    simp only [laws_smHas_l1, lt_of hx, gi_of hx, cond_true, Option.bind_some, w64_ix (ix_of hx) h]) (fun m => by simp only [laws_smHas_l1, end_of, cond_false]) (by omega)]
  cases hf : xs.find? (fun x => x == s) with
  | some x =>
    have : s ∈ xs := by
      have h1 := List.mem_of_find?_eq_some hf
      have h2 : x = s := by simpa using List.find?_some hf
      rwa [h2] at h1
    rw [decide_eq_true this]
  | none =>
    have : s ∉ xs := fun hm => by
      have := List.find?_eq_none.1 hf s hm
      simp at this
    rw [decide_eq_false this]
theorem lineN_len2 {r : Repo} {f a : Nat} {q : Int} {ps : List Int} (hp : parsAt r a = q :: ps) : lineN r (f + 1 + 1) a = (a : Int) :: ((q.toNat : Nat) : Int) :: (lineN r (f + 1) q.toNat).tail := by
  rw [lineN_cons, hp]
  simp only
  rw [lineN_cons]
  rfl
theorem lawBlame_l1 {x : Repo} (hb : RpB x) (hr : repoB x = true) {a : Nat} (ha : a < x.Commits.length) {p : Str} {K : Bool → Int → Option Bool} : laws_FnBlameOf_l1 (x, (a : Int), p) (blN x p a a) (getT (treeAt x a) p) (lineN x (a + 1) a) K ((blN x p a a).length + 1) false 0 = K false ((blN x p a a).length : Int) := by
  have hbl := blN_len x p a a
  have hsm := blT_small hb hr ha p
  have hll := lineN_len x (a + 1) a
  have hs := repo_small hr
  rw [loop_all (n := (blN x p a a).length) (g := fun _ => true) (r0 := some false) (Z := K false ((blN x p a a).length : Int)) (f := fun m i => laws_FnBlameOf_l1 (x, (a : Int), p) (blN x p a a) (getT (treeAt x a) p) (lineN x (a + 1) a) K m false i) (fun m i hi => by
    rw [hbl] at hi
    obtain ⟨c, c1, c2, c3, s, j, c4, c5⟩ := blN_ok hr (p := p) a a (Nat.le_refl _) ha i hi
    have hcl : c < x.Commits.length := by omega
    have hi2 : i < (blN x p a a).length := by rw [hbl]; exact hi
    have gx : (blN x p a a)[i]? = some (c : Int) := by
      rw [List.getD_eq_getElem?_getD, List.getElem?_eq_getElem hi2] at c1
      rw [List.getElem?_eq_getElem hi2, ← c1]
      rfl
    have hin := hasB_nat c2
    have hth := blT_there c5
    have hmem : s ∈ blT x p c := List.mem_of_getElem? c5
    have hsc := blT_small hb hr hcl p
    have gs : gi (getT (treeAt x a) p).1 (i : Int) = some s := gi_of c4
    simp only [laws_FnBlameOf_l1, jn, lt_of gx, gi_of gx, cond_true, Option.bind_some, com_atN hcl, show (x.Commits.getD c noCommit).Tree = treeAt x c from rfl, treeGet_eq hb hr hcl, smIn_eq (show (lineN x (a + 1) a).length ≤ 1000000 by omega), hin, Bool.not_true, cond_false, hth, gs]
    rw [show (getT (treeAt x c) p).1 = blT x p c from rfl, lawHas_eq (show (blT x p c).length ≤ maxi by unfold maxi; omega), decide_eq_true hmem, Option.bind_some, Bool.not_true, cond_false, w64_ix hi2 (show (blN x p a a).length ≤ maxi by unfold maxi; omega)]) (fun m => by simp only [laws_FnBlameOf_l1, end_of, cond_false]) _ (by omega), allN_iff.2 (fun _ _ _ => rfl), cond_true]
theorem lawBlame_l2 {x : Repo} (hb : RpB x) (hr : repoB x = true) {f : Nat} (ha : f + 1 < x.Commits.length) {p : Str} {q : Int} {ps : List Int} (hp : parsAt x (f + 1) = q :: ps) {K : Bool → Int → Option Bool} : laws_FnBlameOf_l2 (x, ((f + 1 : Nat) : Int), p) (blN x p (f + 1) (f + 1)) (mt2 (blT x p q.toNat) (blT x p (f + 1))) K ((blN x p (f + 1) (f + 1)).length + 1) false 0 = K false ((blN x p (f + 1) (f + 1)).length : Int) := by
  have hbl := blN_len x p (f + 1) (f + 1)
  have hsm := blT_small hb hr ha p
  obtain ⟨p0, p1, p2, p3⟩ := first_at hr ha hp
  have hsq := blT_small hb hr p2 p
  obtain ⟨_, hl⟩ := mt2_asc (blT x p q.toNat) (blT x p (f + 1))
  rw [loop_all (n := (blN x p (f + 1) (f + 1)).length) (g := fun _ => true) (r0 := some false) (Z := K false ((blN x p (f + 1) (f + 1)).length : Int)) (f := fun m i => laws_FnBlameOf_l2 (x, ((f + 1 : Nat) : Int), p) (blN x p (f + 1) (f + 1)) (mt2 (blT x p q.toNat) (blT x p (f + 1))) K m false i) (fun m i hi => by
    have hi2 := hi
    rw [hbl] at hi
    have gx : (blN x p (f + 1) (f + 1))[i]? = some ((blN x p (f + 1) (f + 1)).getD i 0) := by
      rw [List.getD_eq_getElem?_getD, List.getElem?_eq_getElem hi2]
      rfl
    have key : (((blN x p (f + 1) (f + 1)).getD i 0 == ((f + 1 : Nat) : Int)) == hasB (mt2 (blT x p q.toNat) (blT x p (f + 1))) (i : Int)) = false := by
      rcases blN_at (r := x) (p := p) (f := f) hi with ⟨q', ps', j, hp', hm, hj, e⟩ | ⟨e, hw⟩
      · rw [hp] at hp'
        cases hp'
        obtain ⟨c, c1, _, c3, _⟩ := blN_ok hr (p := p) f q.toNat (by omega) p2 j hj
        rw [e, c1, hasB_nat (List.mem_of_getElem? hm), show ((c : Int) == ((f + 1 : Nat) : Int)) = false from beq_false_of_ne (by omega)]
        rfl
      · rw [e, beq_self_eq_true, Bool.eq_false_iff.2 fun q2 => hw q ps hp (hasB_iff.1 q2)]
        rfl
    simp only [laws_FnBlameOf_l2, lt_of gx, gi_of gx, cond_true, Option.bind_some, smIn_eq (show (mt2 (blT x p q.toNat) (blT x p (f + 1))).length ≤ 1000000 by omega), key, cond_false, w64_ix hi2 (show (blN x p (f + 1) (f + 1)).length ≤ maxi by unfold maxi; omega)]) (fun m => by simp only [laws_FnBlameOf_l2, end_of, cond_false]) _ (by omega), allN_iff.2 (fun _ _ _ => rfl), cond_true]
theorem FnBlameOf_eq {code : List Byte} (h : Bk.fit code) : laws_FnBlameOf code = some true := by
  unfold laws_FnBlameOf
  by_cases hc : (1048576 : Int) < (code.length : Int)
  · rw [decide_eq_true hc]; rfl
  obtain ⟨x, a, p, e, hx, a0, a1, hpl⟩ := drawBlameOf_eq (code := code) (by omega)
  have hb := hx.rb
  have hlen := blameB_len hb a p
  rw [decide_eq_false hc, cond_false, e, Option.bind_some]
  simp only [repo_eta, sBlameOf_eq hb, iBlameOf_eq hb, Option.bind_some, jn, smInts_eq (show (blameB x a p).length ≤ 1048576 by omega), beq_self_eq_true, Bool.not_true, cond_false]
  by_cases hz : blameB x a p = []
  · rw [hz]; rfl
  obtain ⟨hr, hu, eB⟩ := blameB_some hz
  obtain ⟨u0, u1⟩ := upB_iff.1 hu
  have hpos : 0 < (blameB x a p).length := List.length_pos_iff.2 hz
  rw [beq_false_of_ne (by omega), cond_false, eB] at *
  obtain ⟨n, rfl⟩ := Int.eq_ofNat_of_zero_le u0
  rw [Int.toNat_natCast] at *
  have ha : n < x.Commits.length := by omega
  have hbl := blN_len x p n n
  have eL : lineB' x (n : Int) = lineN x (n + 1) n := by unfold lineB'; rw [hr, hu, Int.toNat_natCast]; rfl
  have hthere : (getT (treeAt x n) p).2 = true := by
    cases hg : (getT (treeAt x n) p).2 with
    | true => rfl
    | false => rw [hbl, blT_not hg] at hpos; simp at hpos
  simp only [com_atN ha, Option.bind_some, show (x.Commits.getD n noCommit).Tree = treeAt x n from rfl, treeGet_eq hb hr ha, iAncLine_eq hb, eL, fuel0]
  rw [lawBlame_l1 hb hr ha]
  have el : ((getT (treeAt x n) p).1.length : Int) = ((blN x p n n).length : Int) := by rw [hbl]; rfl
  cases hp : parsAt x n with
  | nil =>
    have e1 : lineN x (n + 1) n = [(n : Int)] := by rw [lineN_cons, hp]
    have g0 : gi (blN x p n n) 0 = some (n : Int) := by
      rw [blN_nil hp]
      have : 0 < (List.replicate (blT x p n).length (n : Int)).length := by rw [List.length_replicate, ← hbl]; exact hpos
      have h2 := gi_getI this
      rw [show ((0 : Nat) : Int) = 0 from rfl] at h2
      rw [h2, List.getD_eq_getElem?_getD, List.getElem?_replicate, if_pos (by rw [List.length_replicate] at this; exact this)]
      rfl
    rw [e1, show decide (((([(n : Int)] : List Int).length : Nat) : Int) < 2) = true from rfl, cond_true, hthere, cond_true, el, beq_self_eq_true, cond_true, g0, Option.bind_some, beq_self_eq_true]
  | cons q ps =>
    obtain ⟨p0, p1, p2, p3⟩ := first_at hr ha hp
    obtain ⟨f, rfl⟩ : ∃ f, n = f + 1 := ⟨n - 1, by omega⟩
    have e1 := lineN_len2 (r := x) (f := f) hp
    have hl2 : decide (((lineN x (f + 1 + 1) (f + 1)).length : Int) < 2) = false := by rw [e1]; simp only [List.length_cons]; exact decide_eq_false (by omega)
    have g1 : gi (lineN x (f + 1 + 1) (f + 1)) 1 = some q := by rw [e1, p3]; rfl
    have gq : gi x.Commits q = some (x.Commits.getD q.toNat noCommit) := by rw [← p3]; exact com_atN p2
    have hd : impl_DiffMatch (getT (treeAt x q.toNat) p).1 (getT (treeAt x (f + 1)) p).1 = some (mt2 (blT x p q.toNat) (blT x p (f + 1))) := by
      unfold impl_DiffMatch
      rw [show (getT (treeAt x q.toNat) p).1 = blT x p q.toNat from rfl, show (getT (treeAt x (f + 1)) p).1 = blT x p (f + 1) from rfl]
      simp only [jn, TextOk_eq (blT_fit hb hr p2 p), TextOk_eq (blT_fit hb hr ha p), blT_text hb hr p2 p, blT_text hb hr ha p, Option.bind_some, Bool.not_true, cond_false]
      rw [imatch_eq (by have := blT_small hb hr p2 p; omega) (by have := blT_small hb hr ha p; omega)]
      rfl
    rw [hl2, cond_false, g1, Option.bind_some, gq, Option.bind_some, show (x.Commits.getD q.toNat noCommit).Tree = treeAt x q.toNat from rfl, treeGet_eq hb hr p2, Option.bind_some, hd, Option.bind_some]
    rw [lawBlame_l2 hb hr ha hp, hthere, cond_true, el, beq_self_eq_true]
end Go.Vm
namespace Go.Vm
open Go Go.Sx
set_option linter.unusedSimpArgs false
set_option linter.unusedVariables false
theorem AscI.lt {l : List Int} (h : AscI l) {i k : Nat} (hik : i < k) (hk : k < l.length) : l.getD i 0 < l.getD k 0 := by
  have h1 : i < l.length := by omega
  have := List.pairwise_iff_getElem.1 h i k h1 hk hik
  rw [getI_of (List.getElem?_eq_getElem h1), getI_of (List.getElem?_eq_getElem hk)]
  exact this
theorem AscI.inj {l : List Int} (h : AscI l) {i k : Nat} (hi : i < l.length) (hk : k < l.length) (e : l.getD i 0 = l.getD k 0) : i = k := by
  rcases Nat.lt_trichotomy i k with h1 | h1 | h1
  · have := h.lt h1 hk; omega
  · exact h1
  · have := h.lt h1 hi; omega
end Go.Vm
