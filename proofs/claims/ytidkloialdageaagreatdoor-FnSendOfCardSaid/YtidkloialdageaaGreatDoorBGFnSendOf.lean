/- Plain law FnSendOf, and what it uses: what the models answer. Conditions: each law's own premises. -/
import Derived.Test.YtidkloialdageaaGreatDoorBGFnSendOfa

namespace Go.Vm
open Go Go.Sx
set_option linter.unusedSimpArgs false
set_option linter.unusedVariables false
set_option linter.unusedSectionVars false

def sendP (has list : List Int) (p : Int) : Int := bif hasB list p then plI list p else -1 - plI has p
def sendOk (has list : List Int) (p : Int) : Bool := hasB list p || hasB has p
def sendC (has list : List Int) (c : Commit) : Commit := ⟨c.Parents.map (sendP has list), c.Who, c.Tree⟩
def sendAll (r : Repo) (has list : List Int) (x : Int) : Bool := (parsAt r x.toNat).all (sendOk has list)
def sendL (r : Repo) (has list : List Int) : List Commit := list.map fun i => sendC has list (r.Commits.getD i.toNat noCommit)
def suspB (r : Repo) (has : List Int) (a : Int) : Bool := repoB r && (anyB r has && upB r.Commits.length a)
def sendB (r : Repo) (has : List Int) (a : Int) : List Commit × Bool :=
  bif suspB r has a then (bif (leftL r has a).all (sendAll r has (leftL r has a)) then (sendL r has (leftL r has a), true) else ([], false)) else ([], false)
theorem placeB_lt {l : List Int} {n : Int} : decide (placeB l n < 0) = !hasB l n := by
  unfold placeB
  cases h : hasB l n with
  | true =>
    have := (plI_mem (hasB_iff.1 h)).1
    rw [cond_true, decide_eq_false (by omega)]
    rfl
  | false => rfl
theorem placeB_rng {l : List Int} {n : Int} : -1 ≤ placeB l n ∧ placeB l n < (l.length : Int) := by
  unfold placeB
  cases h : hasB l n with
  | true =>
    have := plI_mem (hasB_iff.1 h)
    rw [cond_true]
    omega
  | false => rw [cond_false]; omega
theorem indexI_l1 {l : List Int} (hl : l.length ≤ 1000000) {n : Int} : ∀ (k i m : Nat), i + k = l.length → k < m →
    slices_Index_int_int_l1 l n (fun _ _ => some (-1)) m 0 (i : Int) = some (bif hasB (l.drop i) n then ((i + (l.drop i).idxOf n : Nat) : Int) else -1)
  | k, i, 0, _, hm => by omega
  | 0, i, m + 1, hi, _ => by
    obtain rfl : i = l.length := by omega
    simp only [slices_Index_int_int_l1, end_of, cond_false, List.drop_length]
    rfl
  | k + 1, i, m + 1, hi, hm => by
    have hlt : i < l.length := by omega
    have hx : l[i]? = some l[i] := List.getElem?_eq_getElem hlt
    simp only [slices_Index_int_int_l1, lt_of hx, gi_of hx, cond_true, Option.bind_some, w64_ix hlt (show l.length ≤ maxi by unfold maxi; omega)]
    rw [place_drop hlt, indexI_l1 hl k (i + 1) m (by omega) (by omega), show (n == l[i]) = (l[i] == n) from bool_ext (by simp only [beq_iff_eq]; exact ⟨Eq.symm, Eq.symm⟩)]
    cases l[i] == n <;> rfl
theorem indexI_eq {l : List Int} (hl : l.length ≤ 1000000) (n : Int) : slices_Index_int_int l n = some (placeB l n) := by
  unfold slices_Index_int_int
  simp only [jn, fuel0]
  have e := indexI_l1 hl (n := n) l.length 0 (l.length + 1) (by omega) (by omega)
  refine e.trans ?_
  unfold placeB plI
  simp
section
variable {has list : List Int} (hh : has.length ≤ 1000000) (hl : list.length ≤ 1000000)
include hh hl
theorem ssend_l2 {P : List Int} (hP : P.length ≤ 1000000) {K : List Commit → Bool → Int → List Int → Option (List Commit × Bool)} {y : List Commit} {b : Bool} : ∀ (j k m : Nat), k + j = P.length → j < m →
    spec_SendOf_l2 has list K m y b (k : Int) (half (sendP has list) P k) = bif (P.drop k).all (sendOk has list) then K y b (P.length : Int) (P.map (sendP has list)) else some ([], false)
  | j, k, 0, _, hm => by omega
  | 0, k, m + 1, hk, _ => by
    obtain rfl : k = P.length := by omega
    rw [half_end, List.drop_length]
    simp only [spec_SendOf_l2, show (P.length : Int) = ((P.map (sendP has list)).length : Int) by rw [List.length_map], end_of, cond_false, List.all_nil, cond_true]
  | j + 1, k, m + 1, hk, hm => by
    have hlt : k < P.length := by omega
    have hx : (half (sendP has list) P k)[k]? = some P[k] := half_at hlt
    have hkl : k < (half (sendP has list) P k).length := by rw [half_len]; exact hlt
    have ih := ssend_l2 hP (K := K) (y := y) (b := b) j (k + 1) m (by omega) (by omega)
    simp only [spec_SendOf_l2, jn, lt_of hx, gi_of hx, cond_true, Option.bind_some, sPlace_eq hl, sPlace_eq hh, siM_of hkl, w64_ix hlt (show P.length ≤ maxi by unfold maxi; omega), placeB_lt]
    rw [List.drop_eq_getElem_cons hlt, List.all_cons]
    cases h1 : hasB list P[k] with
    | true =>
      have e1 : placeB list P[k] = sendP has list P[k] := by unfold placeB sendP; rw [h1]; rfl
      have e2 : sendOk has list P[k] = true := by unfold sendOk; rw [h1]; rfl
      simp only [Bool.not_true, cond_false, e1, e2, Bool.true_and]
      rw [half_set hlt]
      exact ih
    | false =>
      cases h2 : hasB has P[k] with
      | false =>
        have e2 : sendOk has list P[k] = false := by unfold sendOk; rw [h1, h2]; rfl
        simp only [Bool.not_false, cond_true, e2, Bool.false_and, cond_false]
      | true =>
        have e2 : sendOk has list P[k] = true := by unfold sendOk; rw [h1, h2]; rfl
        have e1 : -1 - placeB has P[k] = sendP has list P[k] := by unfold placeB sendP; rw [h1, h2]; rfl
        have hr := placeB_rng (l := has) (n := P[k])
        have hs : ((half (sendP has list) P k).set k (placeB list P[k]))[k]? = some (placeB list P[k]) := by rw [List.getElem?_set_self hkl]
        simp only [Bool.not_true, Bool.not_false, cond_true, cond_false, e2, Bool.true_and, gi_of hs, Option.bind_some, siM_of (show k < ((half (sendP has list) P k).set k (placeB list P[k])).length by rw [List.length_set]; exact hkl), List.set_set]
        rw [w64_id (by omega) (by omega), e1, half_set hlt]
        exact ih
theorem isend_l2 {c : Commit} (hP : c.Parents.length ≤ 1000000) {K : List Commit → Bool → Int → List Int → Str → List File → Option (List Commit × Bool)} {y : List Commit} {b : Bool} {w : Str} {t : List File} : ∀ (j k m : Nat), k + j = c.Parents.length → j < m →
    impl_SendOf_l2 has list c K m y b (k : Int) ((c.Parents.take k).map (sendP has list)) w t = bif (c.Parents.drop k).all (sendOk has list) then K y b (c.Parents.length : Int) (c.Parents.map (sendP has list)) w t else some ([], false)
  | j, k, 0, _, hm => by omega
  | 0, k, m + 1, hk, _ => by
    obtain rfl : k = c.Parents.length := by omega
    rw [List.take_length, List.drop_length]
    simp only [impl_SendOf_l2, end_of, cond_false, List.all_nil, cond_true]
  | j + 1, k, m + 1, hk, hm => by
    have hlt : k < c.Parents.length := by omega
    have hx : c.Parents[k]? = some c.Parents[k] := List.getElem?_eq_getElem hlt
    have ih := isend_l2 hP (K := K) (y := y) (b := b) (w := w) (t := t) j (k + 1) m (by omega) (by omega)
    rw [List.take_succ_eq_append_getElem hlt, List.map_append] at ih
    have el : ((c.Parents.take k).map (sendP has list)).length ≤ 1048576 := by rw [List.length_map, List.length_take]; omega
    simp only [impl_SendOf_l2, jn, lt_of hx, gi_of hx, cond_true, Option.bind_some, indexI_eq hl, indexI_eq hh, w64_ix hlt (show c.Parents.length ≤ maxi by unfold maxi; omega), ap1 el]
    rw [List.drop_eq_getElem_cons hlt, List.all_cons]
    have dl : ∀ l : List Int, decide ((0 : Int) ≤ placeB l c.Parents[k]) = hasB l c.Parents[k] := fun l => by
      have := placeB_lt (l := l) (n := c.Parents[k])
      cases hb : hasB l c.Parents[k] with
      | true => rw [hb] at this; simp only [Bool.not_true, decide_eq_false_iff_not] at this; exact decide_eq_true (by omega)
      | false => rw [hb] at this; simp only [Bool.not_false, decide_eq_true_eq] at this; exact decide_eq_false (by omega)
    rw [dl list, dl has]
    cases h1 : hasB list c.Parents[k] with
    | true =>
      have e1 : placeB list c.Parents[k] = sendP has list c.Parents[k] := by unfold placeB sendP; rw [h1]; rfl
      have e2 : sendOk has list c.Parents[k] = true := by unfold sendOk; rw [h1]; rfl
      simp only [cond_true, e1, e2, Bool.true_and]
      exact ih
    | false =>
      cases h2 : hasB has c.Parents[k] with
      | false =>
        have e2 : sendOk has list c.Parents[k] = false := by unfold sendOk; rw [h1, h2]; rfl
        simp only [e2, Bool.false_and, cond_false]
      | true =>
        have e2 : sendOk has list c.Parents[k] = true := by unfold sendOk; rw [h1, h2]; rfl
        have e1 : -1 - placeB has c.Parents[k] = sendP has list c.Parents[k] := by unfold placeB sendP; rw [h1, h2]; rfl
        have hr := placeB_rng (l := has) (n := c.Parents[k])
        simp only [cond_true, cond_false, e2, Bool.true_and]
        rw [w64_id (by omega) (by omega), e1]
        exact ih
variable {r : Repo} (h : RpB r) (hr : repoB r = true) (hg : ∀ x ∈ list, 0 ≤ x ∧ x ≤ (r.Commits.length : Int) - 1)
include h hr hg
theorem com_cb {x : Int} (hx : x ∈ list) : CB (r.Commits.getD x.toNat noCommit) ∧ (r.Commits.getD x.toNat noCommit).Parents.length ≤ 2 := by
  have hrg := hg x hx
  have hgx : r.Commits[x.toNat]? = some (r.Commits[x.toNat]'(by omega)) := List.getElem?_eq_getElem _
  have hps := pars_small hr (i := x.toNat) (by omega)
  unfold parsAt at hps
  exact ⟨by rw [getC_of hgx]; exact h.cat hgx, hps.1⟩
theorem ssend_l1 {K : List Commit → Bool → List Commit → Int → Option (List Commit × Bool)} : ∀ (j k m : Nat), k + j = list.length → j < m →
    spec_SendOf_l1 r has list K m [] false ((list.take k).map fun i => sendC has list (r.Commits.getD i.toNat noCommit)) (k : Int) = bif (list.drop k).all (sendAll r has list) then K [] false (sendL r has list) (list.length : Int) else some ([], false)
  | j, k, 0, _, hm => by omega
  | 0, k, m + 1, hk, _ => by
    obtain rfl : k = list.length := by omega
    rw [List.take_length, List.drop_length]
    simp only [spec_SendOf_l1, end_of, cond_false, List.all_nil, cond_true]
    rfl
  | j + 1, k, m + 1, hk, hm => by
    have hlt : k < list.length := by omega
    have hx : list[k]? = some list[k] := List.getElem?_eq_getElem hlt
    have hxm := List.getElem_mem hlt
    have hrg := hg _ hxm
    obtain ⟨hc, hp2⟩ := com_cb hh hl h hr hg hxm
    have ih := ssend_l1 (K := K) j (k + 1) m (by omega) (by omega)
    rw [List.take_succ_eq_append_getElem hlt, List.map_append] at ih
    have el : ((list.take k).map fun i => sendC has list (r.Commits.getD i.toNat noCommit)).length ≤ 1048576 := by rw [List.length_map, List.length_take]; omega
    simp only [spec_SendOf_l1, jn, lt_of hx, gi_of hx, cond_true, Option.bind_some, com_atI hrg.1 hrg.2, l7CopyCommit_eq hc, fuel0]
    have e := ssend_l2 hh hl (P := (r.Commits.getD list[k].toNat noCommit).Parents) (by omega) (y := []) (b := false) (K := fun (y200 : List Vm.Commit) (y203 : Bool) (y204 : Int) (y207 : List Int) =>
        (apM ((list.take k).map fun i => sendC has list (r.Commits.getD i.toNat noCommit)) [Vm.Commit.mk y207 (r.Commits.getD list[k].toNat noCommit).Who (r.Commits.getD list[k].toNat noCommit).Tree]).bind fun q309 =>
        spec_SendOf_l1 r has list K m y200 y203 q309 (w64 ((k : Int) + 1))) (r.Commits.getD list[k].toNat noCommit).Parents.length 0 ((r.Commits.getD list[k].toNat noCommit).Parents.length + 1) (by omega) (by omega)
    rw [half_self] at e
    refine e.trans ?_
    rw [List.drop_eq_getElem_cons hlt, List.all_cons, List.drop_zero]
    have ea : (r.Commits.getD list[k].toNat noCommit).Parents.all (sendOk has list) = sendAll r has list list[k] := rfl
    rw [ea]
    cases sendAll r has list list[k] with
    | false => rfl
    | true =>
      rw [cond_true, Bool.true_and, ap1 el, Option.bind_some, w64_ix hlt (show list.length ≤ maxi by unfold maxi; omega)]
      exact ih
theorem isend_l1 {K : List Commit → Bool → List Commit → Int → Option (List Commit × Bool)} : ∀ (j k m : Nat), k + j = list.length → j < m →
    impl_SendOf_l1 r has list K m [] false ((list.take k).map fun i => sendC has list (r.Commits.getD i.toNat noCommit)) (k : Int) = bif (list.drop k).all (sendAll r has list) then K [] false (sendL r has list) (list.length : Int) else some ([], false)
  | j, k, 0, _, hm => by omega
  | 0, k, m + 1, hk, _ => by
    obtain rfl : k = list.length := by omega
    rw [List.take_length, List.drop_length]
    simp only [impl_SendOf_l1, end_of, cond_false, List.all_nil, cond_true]
    rfl
  | j + 1, k, m + 1, hk, hm => by
    have hlt : k < list.length := by omega
    have hx : list[k]? = some list[k] := List.getElem?_eq_getElem hlt
    have hxm := List.getElem_mem hlt
    have hrg := hg _ hxm
    obtain ⟨hc, hp2⟩ := com_cb hh hl h hr hg hxm
    have ih := isend_l1 (K := K) j (k + 1) m (by omega) (by omega)
    rw [List.take_succ_eq_append_getElem hlt, List.map_append] at ih
    have el : ((list.take k).map fun i => sendC has list (r.Commits.getD i.toNat noCommit)).length ≤ 1048576 := by rw [List.length_map, List.length_take]; omega
    have et : impl_Repo_tree r list[k] = some (r.Commits.getD list[k].toNat noCommit).Tree := by
      unfold impl_Repo_tree
      rw [decide_eq_false (by omega), cond_false, com_atI hrg.1 hrg.2, Option.bind_some]
    simp only [impl_SendOf_l1, jn, lt_of hx, gi_of hx, cond_true, Option.bind_some, com_atI hrg.1 hrg.2, et, copyTree_eq hc.tree, fuel0]
    have e := isend_l2 hh hl (c := r.Commits.getD list[k].toNat noCommit) (by omega) (y := []) (b := false) (w := (r.Commits.getD list[k].toNat noCommit).Who) (t := (r.Commits.getD list[k].toNat noCommit).Tree) (K := fun (y217 : List Vm.Commit) (y220 : Bool) (y224 : Int) (y225 : List Int) (y228 : Str) (y229 : List Vm.File) =>
        (apM ((list.take k).map fun i => sendC has list (r.Commits.getD i.toNat noCommit)) [Vm.Commit.mk y225 y228 y229]).bind fun q357 =>
        impl_SendOf_l1 r has list K m y217 y220 q357 (w64 ((k : Int) + 1))) (r.Commits.getD list[k].toNat noCommit).Parents.length 0 ((r.Commits.getD list[k].toNat noCommit).Parents.length + 1) (by omega) (by omega)
    refine e.trans ?_
    rw [List.drop_eq_getElem_cons hlt, List.all_cons, List.drop_zero]
    have ea : (r.Commits.getD list[k].toNat noCommit).Parents.all (sendOk has list) = sendAll r has list list[k] := rfl
    rw [ea]
    cases sendAll r has list list[k] with
    | false => rfl
    | true =>
      rw [cond_true, Bool.true_and, ap1 el, Option.bind_some, w64_ix hlt (show list.length ≤ maxi by unfold maxi; omega)]
      exact ih
end
theorem susp_eq {r : Repo} (h : RpB r) {has : List Int} (hl : has.length ≤ 1000) (a : Int) : impl_Repo_areSuspect r has a = some (suspB r has a) := by
  unfold impl_Repo_areSuspect suspB anyB
  simp only [jn, are_eq h (show has.length ≤ 100000 by omega), exists_eq h, Option.bind_some]
  cases repoB r with
  | false => rfl
  | true =>
    cases has.all (upB r.Commits.length) with
    | false => rfl
    | true =>
      cases decide ((has.length : Int) ≤ 16) <;> rfl
theorem susp_facts {r : Repo} {has : List Int} {a : Int} (h : suspB r has a = true) : repoB r = true ∧ upB r.Commits.length a = true ∧ anyB r has = true ∧ (∀ g ∈ has, upB r.Commits.length g = true) ∧ has.length ≤ 16 := by
  unfold suspB at h
  simp only [Bool.and_eq_true] at h
  obtain ⟨h1, h2, h3⟩ := h
  exact ⟨h1, h3, h2, (anyB_up h2).1, (anyB_up h2).2⟩
theorem leftL_rng {r : Repo} {has : List Int} {a x : Int} (hx : x ∈ leftL r has a) : 0 ≤ x ∧ x ≤ (r.Commits.length : Int) - 1 := allA_mem (leftL_mem.1 hx).1
theorem sSendOf_eq {r : Repo} (h : RpB r) {has : List Int} (hl : has.length ≤ 1000) (a : Int) : spec_SendOf r has a = some (sendB r has a) := by
  unfold spec_SendOf sendB
  simp only [jn, l7Ok_eq h, l12Any_eq h (show has.length ≤ 1048576 by omega), l1In_eq, low_ix (to_maxi h.coms), Option.bind_some]
  rw [show (decide ((0 : Int) ≤ a) && decide (a ≤ (r.Commits.length : Int) - 1)) = upB r.Commits.length a from rfl]
  cases hs : suspB r has a with
  | false =>
    unfold suspB at hs
    cases h1 : repoB r with
    | false => rfl
    | true =>
      cases h2 : anyB r has with
      | false => rfl
      | true =>
        rw [h1, h2] at hs
        simp only [Bool.true_and] at hs
        rw [hs]
        rfl
  | true =>
    obtain ⟨h1, h2, h3, h4, h5⟩ := susp_facts hs
    have hle := leftL_len r has a
    have hsm := (repo_small h1).1
    rw [h1, h2, h3]
    simp only [Bool.not_true, cond_false, cond_true]
    unfold spec_l15New
    rw [l12Left_eq h1 h4 (by omega) h2, Option.bind_some, Option.bind_some]
    simp only [fuel0]
    have e := ssend_l1 (has := has) (list := leftL r has a) (by omega) (by omega) h h1 (fun x hx => leftL_rng hx) (K := fun _ _ y26 _ => some (y26, true)) (leftL r has a).length 0 ((leftL r has a).length + 1) (by omega) (by omega)
    refine e.trans ?_
    rw [List.drop_zero]
    cases (leftL r has a).all (sendAll r has (leftL r has a)) <;> rfl
theorem iSendOf_eq {r : Repo} (h : RpB r) {has : List Int} (hl : has.length ≤ 1000) (a : Int) : impl_SendOf r has a = some (sendB r has a) := by
  unfold impl_SendOf sendB
  rw [susp_eq h hl, Option.bind_some]
  cases hs : suspB r has a with
  | false => rfl
  | true =>
    obtain ⟨h1, h2, h3, h4, h5⟩ := susp_facts hs
    have hle := leftL_len r has a
    have hsm := (repo_small h1).1
    rw [Bool.not_true, cond_false, cond_true, iSince_eq h1 h2 (by omega) h4, Option.bind_some]
    simp only [jn, fuel0]
    have e := isend_l1 (has := has) (list := leftL r has a) (by omega) (by omega) h h1 (fun x hx => leftL_rng hx) (K := fun _ _ y26 _ => some (y26, true)) (leftL r has a).length 0 ((leftL r has a).length + 1) (by omega) (by omega)
    refine e.trans ?_
    rw [List.drop_zero]
    cases (leftL r has a).all (sendAll r has (leftL r has a)) <;> rfl
def manyB (r : Repo) (has : List Int) (a : Int) : Int := bif suspB r has a then ((leftL r has a).length : Int) else -1
theorem sSendMany_eq {r : Repo} (h : RpB r) {has : List Int} (hl : has.length ≤ 1000) (a : Int) : spec_SendMany r has a = some (manyB r has a) := by
  unfold spec_SendMany manyB
  simp only [jn, l7Ok_eq h, l12Any_eq h (show has.length ≤ 1048576 by omega), l1In_eq, low_ix (to_maxi h.coms), Option.bind_some]
  rw [show (decide ((0 : Int) ≤ a) && decide (a ≤ (r.Commits.length : Int) - 1)) = upB r.Commits.length a from rfl]
  cases hs : suspB r has a with
  | false =>
    unfold suspB at hs
    cases h1 : repoB r with
    | false => rfl
    | true =>
      cases h2 : anyB r has with
      | false => rfl
      | true =>
        rw [h1, h2] at hs
        simp only [Bool.true_and] at hs
        rw [hs]
        rfl
  | true =>
    obtain ⟨h1, h2, h3, h4, h5⟩ := susp_facts hs
    rw [h1, h2, h3]
    simp only [Bool.not_true, cond_false, cond_true]
    unfold spec_l15New
    rw [l12Left_eq h1 h4 (by omega) h2]
    rfl
theorem iSendMany_eq {r : Repo} (h : RpB r) {has : List Int} (hl : has.length ≤ 1000) (a : Int) : impl_SendMany r has a = some (manyB r has a) := by
  unfold impl_SendMany manyB
  rw [susp_eq h hl, Option.bind_some]
  cases hs : suspB r has a with
  | false => rfl
  | true =>
    obtain ⟨h1, h2, h3, h4, h5⟩ := susp_facts hs
    rw [Bool.not_true, cond_false, cond_true, iSince_eq h1 h2 (by omega) h4]
    rfl
theorem sendB_some {r : Repo} {has : List Int} {a : Int} (h : (sendB r has a).2 = true) : suspB r has a = true ∧ (leftL r has a).all (sendAll r has (leftL r has a)) = true ∧ (sendB r has a).1 = sendL r has (leftL r has a) := by
  unfold sendB at h ⊢
  cases hs : suspB r has a with
  | false => rw [hs] at h; cases h
  | true =>
    rw [hs, cond_true] at h
    cases ha : (leftL r has a).all (sendAll r has (leftL r has a)) with
    | false => rw [ha] at h; cases h
    | true => exact ⟨rfl, rfl, rfl⟩
theorem sendC_cb {c : Commit} (h : CB c) (has list : List Int) : CB (sendC has list c) := ⟨by simp only [sendC, List.length_map]; exact h.par, h.who, h.tree⟩
theorem drawSendOf_eq {code : List Byte} (h : code.length ≤ 1048576) : ∃ x has a, spec_DrawSendOf code = some (x, has, a) ∧ Drawn x ∧ has.length ≤ 16 := by
  unfold spec_DrawSendOf
  obtain ⟨b, e, hr⟩ := open0 h
  obtain ⟨x, q, e2, hx, r2⟩ := anyRepo_eq hr (by omega)
  obtain ⟨a, e3, a0, a1⟩ := l30At_eq r2 (by omega) hx
  have hcm := hx.coms
  have r3 : RdOk ⟨b, q + 1 + 1⟩ (0 + 2010 + 2) := rd_on (r := ⟨b, q + 1⟩) (rd_on (r := ⟨b, q⟩) (q := 0 + 2010 + 1) r2 (by omega) (by omega)) (by omega) (by omega)
  simp only [e, Option.bind_some, e2, repo_eta, e3, jn, l1In_eq, low_ix (to_maxi hx.rb.coms), l7Ok_eq hx.rb]
  obtain ⟨l1, q1, f1, g1, _⟩ := some_eq r3 (by omega) (x := x) hcm
  have hs : ∀ {qq : Int} {p : Int}, RdOk ⟨b, qq⟩ p → p ≤ 200000 → ∃ l q', spec_l30Some ⟨b, qq⟩ x = some (l, q') ∧ l.length ≤ 4 := fun {qq p} hq hp => by
    obtain ⟨l, q', f, g, _⟩ := some_eq hq hp (x := x) hcm
    exact ⟨l, q', f, g⟩
  cases hu : (decide ((0 : Int) ≤ a) && decide (a ≤ (x.Commits.length : Int) - 1)) with
  | false =>
    simp only [cond_false]
    rw [f1]
    exact ⟨x, l1, a, rfl, hx, by omega⟩
  | true =>
    simp only [Bool.and_eq_true, decide_eq_true_eq] at hu
    cases hok : repoB x with
    | false =>
      simp only [cond_true, cond_false]
      rw [f1]
      exact ⟨x, l1, a, rfl, hx, by omega⟩
    | true =>
      simp only [cond_true]
      obtain ⟨k, e4, k0, k1⟩ := pick_eq r3 (n := 3) (by omega) (by omega) (by omega)
      simp only at e4
      have r4 : RdOk ⟨b, q + 1 + 1 + 1⟩ (0 + 2010 + 3) := rd_on (r := ⟨b, q + 1 + 1⟩) r3 (k := 1) (by omega) (by omega)
      rw [e4, Option.bind_some]
      simp only
      cases decide ((0 : Int) < k) with
      | false =>
        obtain ⟨l2, q2, f2, g2⟩ := hs r4 (by omega)
        simp only [cond_false]
        rw [f2]
        exact ⟨x, l2, a, rfl, hx, by omega⟩
      | true =>
        obtain ⟨k', e5, k0', k1'⟩ := pick_eq r4 (n := (x.Commits.length : Int)) (by omega) (by omega) (by omega)
        simp only [cond_true] at e5 ⊢
        rw [e5, Option.bind_some]
        simp only
        rw [l8All_eq hok k0' (by omega), Option.bind_some]
        exact ⟨x, allA x k', a, rfl, hx, by have := allA_len x k'; omega⟩
theorem sendLaw_l1 {x : Repo} {has : List Int} {a : Int} (hb : RpB x) (hl : has.length ≤ 16) (hcm : x.Commits.length ≤ 16) (h2 : (sendB x has a).2 = true) {K : Bool → Int → Option Bool} :
    laws_FnSendOf_l1 (x, has, a) (sendB x has a) (sendB x has a) (leftL x has a) K ((sendB x has a).1.length + 1) false 0 = K false ((sendB x has a).1.length : Int) := by
    obtain ⟨h3, h4, h5⟩ := sendB_some h2
    obtain ⟨r1, r2, r3, r4, r5⟩ := susp_facts h3
    have hle := leftL_len x has a
    have hsl : (sendL x has (leftL x has a)).length = (leftL x has a).length := by simp [sendL]
    rw [loop_all (n := (sendB x has a).1.length) (g := fun _ => true) (r0 := some false) (Z := K false ((sendB x has a).1.length : Int)) (f := fun m i => laws_FnSendOf_l1 (x, has, a) (sendB x has a) (sendB x has a) (leftL x has a) K m false i) (fun m i hi => by
      rw [h5, hsl] at hi
      have hz : (leftL x has a)[i]? = some (leftL x has a)[i] := List.getElem?_eq_getElem hi
      have hzm := List.getElem_mem hi
      have hrg := leftL_rng hzm
      have hgx : x.Commits[(leftL x has a)[i].toNat]? = some (x.Commits[(leftL x has a)[i].toNat]'(by omega)) := List.getElem?_eq_getElem _
      have hcb : CB (x.Commits.getD (leftL x has a)[i].toNat noCommit) := by rw [getC_of hgx]; exact hb.cat hgx
      have hsC : (sendB x has a).1[i]? = some (sendC has (leftL x has a) (x.Commits.getD (leftL x has a)[i].toNat noCommit)) := by
        rw [h5]
        unfold sendL
        rw [List.getElem?_map, hz]
        rfl
      have hps := pars_small r1 (i := (leftL x has a)[i].toNat) (by omega)
      have hall := List.all_eq_true.1 h4 _ hzm
      unfold sendAll at hall
      rw [List.all_eq_true] at hall
      simp only [laws_FnSendOf_l1, jn, lt_of hsC, gi_of hz, gi_of hsC, cond_true, Option.bind_some, com_atI hrg.1 hrg.2, smCommit_eq (sendC_cb hcb has (leftL x has a)), beq_self_eq_true, Bool.not_true, cond_false, fuel0]
      have e1 : (sendC has (leftL x has a) (x.Commits.getD (leftL x has a)[i].toNat noCommit)).Who = (x.Commits.getD (leftL x has a)[i].toNat noCommit).Who := rfl
      have e2 : (sendC has (leftL x has a) (x.Commits.getD (leftL x has a)[i].toNat noCommit)).Tree = (x.Commits.getD (leftL x has a)[i].toNat noCommit).Tree := rfl
      have e3 : (sendC has (leftL x has a) (x.Commits.getD (leftL x has a)[i].toNat noCommit)).Parents.length = (x.Commits.getD (leftL x has a)[i].toNat noCommit).Parents.length := by simp [sendC]
      rw [e1, e2, e3, bne_self_eq_false, cond_false, smTree_eq hcb.tree, Option.bind_some, beq_self_eq_true, Bool.not_true, cond_false, bne_self_eq_false, cond_false]
      rw [loop_all (n := (parsAt x (leftL x has a)[i].toNat).length) (g := fun _ => true) (r0 := some false) (Z := laws_FnSendOf_l1 (x, has, a) (sendB x has a) (sendB x has a) (leftL x has a) K m false (w64 ((i : Int) + 1))) (f := fun m' k => laws_FnSendOf_l2 (x, has, a) (sendB x has a) (leftL x has a) (i : Int) (x.Commits.getD (leftL x has a)[i].toNat noCommit) _ m' false k) (fun m' k hk => by
        have hq : (parsAt x (leftL x has a)[i].toNat)[k]? = some (parsAt x (leftL x has a)[i].toNat)[k] := List.getElem?_eq_getElem hk
        have hqm := List.getElem_mem hk
        have hq2 : (x.Commits.getD (leftL x has a)[i].toNat noCommit).Parents[k]? = some (parsAt x (leftL x has a)[i].toNat)[k] := hq
        have hq3 : (sendC has (leftL x has a) (x.Commits.getD (leftL x has a)[i].toNat noCommit)).Parents[k]? = some (sendP has (leftL x has a) (parsAt x (leftL x has a)[i].toNat)[k]) := by
          show ((parsAt x (leftL x has a)[i].toNat).map _)[k]? = _
          rw [List.getElem?_map, hq]
          rfl
        have hlow := hps.2 _ hqm
        have hok := hall _ hqm
        simp only [laws_FnSendOf_l2, jn, lt_of hq2, gi_of hq2, gi_of hq3, gi_of hsC, cond_true, Option.bind_some]
        cases hin : hasB (leftL x has a) (parsAt x (leftL x has a)[i].toNat)[k] with
        | true =>
          have hm := hasB_iff.1 hin
          obtain ⟨p0, p1, p2, p3⟩ := plI_mem hm
          have hlt := plI_lt (leftL_asc x has a) hm hzm (by omega)
          rw [plI_at (leftL_asc x has a) hi] at hlt
          have es : sendP has (leftL x has a) (parsAt x (leftL x has a)[i].toNat)[k] = plI (leftL x has a) (parsAt x (leftL x has a)[i].toNat)[k] := by unfold sendP; rw [hin]; rfl
          have eg : gi (leftL x has a) (plI (leftL x has a) (parsAt x (leftL x has a)[i].toNat)[k]) = some (parsAt x (leftL x has a)[i].toNat)[k] := by
            have := gi_of (List.getElem?_eq_getElem p2)
            rw [p3, show (((plI (leftL x has a) (parsAt x (leftL x has a)[i].toNat)[k]).toNat : Nat) : Int) = plI (leftL x has a) (parsAt x (leftL x has a)[i].toNat)[k] by omega] at this
            exact this
          simp only [es, decide_eq_false (show ¬ ((i : Int) ≤ plI (leftL x has a) (parsAt x (leftL x has a)[i].toNat)[k]) by omega), cond_false, decide_eq_true p0, cond_true, eg, Option.bind_some, bne_self_eq_false, decide_eq_false (show ¬ (plI (leftL x has a) (parsAt x (leftL x has a)[i].toNat)[k] < 0) by omega), w64_ix hk (show (parsAt x (leftL x has a)[i].toNat).length ≤ maxi by unfold maxi; omega)]
        | false =>
          have hm : (parsAt x (leftL x has a)[i].toNat)[k] ∈ has := by
            unfold sendOk at hok
            rw [hin, Bool.false_or] at hok
            exact hasB_iff.1 hok
          obtain ⟨p0, p1, p2, p3⟩ := plI_mem hm
          have es : sendP has (leftL x has a) (parsAt x (leftL x has a)[i].toNat)[k] = -1 - plI has (parsAt x (leftL x has a)[i].toNat)[k] := by unfold sendP; rw [hin]; rfl
          have eg : gi has (plI has (parsAt x (leftL x has a)[i].toNat)[k]) = some (parsAt x (leftL x has a)[i].toNat)[k] := by
            have := gi_of (List.getElem?_eq_getElem p2)
            rw [p3, show (((plI has (parsAt x (leftL x has a)[i].toNat)[k]).toNat : Nat) : Int) = plI has (parsAt x (leftL x has a)[i].toNat)[k] by omega] at this
            exact this
          have ew : w64 (-1 - (-1 - plI has (parsAt x (leftL x has a)[i].toNat)[k])) = plI has (parsAt x (leftL x has a)[i].toNat)[k] := by rw [w64_id (by omega) (by omega)]; omega
          simp only [es, decide_eq_false (show ¬ ((i : Int) ≤ -1 - plI has (parsAt x (leftL x has a)[i].toNat)[k]) by omega), cond_false, decide_eq_false (show ¬ ((0 : Int) ≤ -1 - plI has (parsAt x (leftL x has a)[i].toNat)[k]) by omega), decide_eq_true (show -1 - plI has (parsAt x (leftL x has a)[i].toNat)[k] < 0 by omega), cond_true, ew, eg, Option.bind_some, bne_self_eq_false, w64_ix hk (show (parsAt x (leftL x has a)[i].toNat).length ≤ maxi by unfold maxi; omega)]) (fun m' => by
            simp only [laws_FnSendOf_l2, show (x.Commits.getD (leftL x has a)[i].toNat noCommit).Parents = parsAt x (leftL x has a)[i].toNat from rfl, end_of, cond_false]) _ (by show _ < (parsAt x (leftL x has a)[i].toNat).length + 1; omega), allN_iff.2 (fun _ _ _ => rfl), cond_true, w64_ix hi (show (leftL x has a).length ≤ maxi by unfold maxi; omega)]) (fun m => by simp only [laws_FnSendOf_l1, end_of, cond_false]) _ (by omega), allN_iff.2 (fun _ _ _ => rfl), cond_true]
theorem FnSendOf_eq {code : List Byte} (h : Bk.fit code) : laws_FnSendOf code = some true := by
  unfold laws_FnSendOf
  by_cases hc : (1048576 : Int) < (code.length : Int)
  · rw [decide_eq_true hc]; rfl
  obtain ⟨x, has, a, e, hx, hl⟩ := drawSendOf_eq (code := code) (by omega)
  have hb := hx.rb
  have hcm := hx.coms
  rw [decide_eq_false hc, cond_false, e, Option.bind_some]
  simp only [repo_eta, iSendOf_eq hb (show has.length ≤ 1000 by omega), sSendOf_eq hb (show has.length ≤ 1000 by omega), iSendMany_eq hb (show has.length ≤ 1000 by omega), sSendMany_eq hb (show has.length ≤ 1000 by omega), Option.bind_some, jn, bne_self_eq_false, beq_self_eq_true, cond_false, cond_true]
  cases h2 : (sendB x has a).2 with
  | false => rfl
  | true =>
    obtain ⟨h3, h4, h5⟩ := sendB_some h2
    obtain ⟨r1, r2, r3, r4, r5⟩ := susp_facts h3
    have hle := leftL_len x has a
    have eL : logLeftB x has a = leftL x has a := by unfold logLeftB; rw [r1, r2, r3]; rfl
    have eM : manyB x has a = ((leftL x has a).length : Int) := by unfold manyB; rw [h3]; rfl
    have hsl : (sendL x has (leftL x has a)).length = (leftL x has a).length := by simp [sendL]
    simp only [Bool.not_true, cond_false, iLogLeft_eq hb (show has.length ≤ 1000 by omega), eL, Option.bind_some, fuel0]
    rw [sendLaw_l1 hb hl hcm h2, h5, hsl, eM, beq_self_eq_true, cond_true]
end Go.Vm

namespace Go.Vm
open Go Go.Sx
set_option linter.unusedSimpArgs false
set_option linter.unusedVariables false
set_option linter.unusedSectionVars false

/-- What may be taken. -/
structure SentB (sent : List Commit) : Prop where
  len : sent.length ≤ 16
  cb : ∀ c ∈ sent, CB c
  fit : ∀ c ∈ sent, ∀ p ∈ c.Parents, fit64 p
theorem SentB.take {sent : List Commit} (h : SentB sent) (k : Nat) : SentB (sent.take k) :=
  ⟨Nat.le_trans (List.length_take_le' k sent) h.len, fun c hc => h.cb c (List.mem_of_mem_take hc), fun c hc => h.fit c (List.mem_of_mem_take hc)⟩
theorem SentB.set {sent : List Commit} (h : SentB sent) {c : Commit} (hc : CB c) (hf : ∀ p ∈ c.Parents, fit64 p) (k : Nat) : SentB (sent.set k c) :=
  ⟨by rw [List.length_set]; exact h.len, fun d hd => by
    rcases List.mem_or_eq_of_mem_set hd with q | q
    · exact h.cb d q
    · rw [q]; exact hc, fun d hd => by
    rcases List.mem_or_eq_of_mem_set hd with q | q
    · exact h.fit d q
    · rw [q]; exact hf⟩
section
variable {x : Repo} (hr : repoB x = true) {a b : Int} (ha : upB x.Commits.length a = true) (hb : upB x.Commits.length b = true)
include hr ha
include hb
end
end Go.Vm

namespace Go.Vm
open Go Go.Sx
set_option linter.unusedSimpArgs false
set_option linter.unusedVariables false

theorem AscI.lt {l : List Int} (h : AscI l) {i k : Nat} (hik : i < k) (hk : k < l.length) : l.getD i 0 < l.getD k 0 := by
  have h1 : i < l.length := by omega
  have := List.pairwise_iff_getElem.1 h i k h1 hk hik
  rw [getI_of (List.getElem?_eq_getElem h1), getI_of (List.getElem?_eq_getElem hk)]
  exact this
theorem AscI.inj {l : List Int} (h : AscI l) {i k : Nat} (hi : i < l.length) (hk : k < l.length) (e : l.getD i 0 = l.getD k 0) : i = k := by
  rcases Nat.lt_trichotomy i k with h1 | h1 | h1
  · have := h.lt h1 hk; omega
  · exact h1
  · have := h.lt h1 hi; omega
end Go.Vm
