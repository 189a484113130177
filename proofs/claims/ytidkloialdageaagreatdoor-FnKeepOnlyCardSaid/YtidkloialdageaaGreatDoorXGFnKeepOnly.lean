/- Plain law FnKeepOnly, and what it uses: what the models answer. Conditions: each law's own premises. -/
import Derived.Test.YtidkloialdageaaGreatDoorXGFnKeepOnlya

namespace Go.Vm
open Go Go.Sx
set_option linter.unusedSimpArgs false
set_option linter.unusedVariables false

def plI (l : List Int) (n : Int) : Int := (l.idxOf n : Int)
theorem AscI.nodup {l : List Int} (h : AscI l) : l.Nodup := List.Pairwise.imp (fun hab e => by rw [e] at hab; exact Int.lt_irrefl _ hab) h
theorem plI_at {l : List Int} (h : AscI l) {i : Nat} (hi : i < l.length) : plI l l[i] = (i : Int) := by
  unfold plI
  rw [h.nodup.idxOf_getElem i hi]
theorem plI_mem {l : List Int} {n : Int} (h : n ∈ l) : 0 ≤ plI l n ∧ plI l n < (l.length : Int) ∧ ∃ hi : (plI l n).toNat < l.length, l[(plI l n).toNat] = n := by
  unfold plI
  have hl := List.idxOf_lt_length_of_mem h
  refine ⟨Int.natCast_nonneg _, by omega, hl, ?_⟩
  exact List.getElem_idxOf hl
theorem plI_lt {l : List Int} (h : AscI l) {a b : Int} (ha : a ∈ l) (hb : b ∈ l) (hab : a < b) : plI l a < plI l b := by
  obtain ⟨i, hi, rfl⟩ := List.getElem_of_mem ha
  obtain ⟨j, hj, rfl⟩ := List.getElem_of_mem hb
  rw [plI_at h hi, plI_at h hj]
  have hp := List.pairwise_iff_getElem.1 h
  rcases Nat.lt_trichotomy i j with q | q | q
  · omega
  · subst q; exact absurd hab (Int.lt_irrefl _)
  · have := hp j i hj hi q
    omega
theorem plI_inj {l : List Int} (h : AscI l) {a b : Int} (ha : a ∈ l) (hb : b ∈ l) (e : plI l a = plI l b) : a = b := by
  rcases Int.lt_trichotomy a b with q | q | q
  · have := plI_lt h ha hb q; omega
  · exact q
  · have := plI_lt h hb ha q; omega
theorem map_plI_asc {l m : List Int} (h : AscI l) (hm : AscI m) (hs : ∀ x ∈ m, x ∈ l) : AscI (m.map (plI l)) := by
  unfold AscI at hm ⊢
  rw [List.pairwise_map]
  exact hm.imp_of_mem fun ha hb hab => plI_lt h (hs _ ha) (hs _ hb) hab

theorem liveL_asc (r : Repo) : AscI (liveL r) := idxT_asc _
theorem liveL_mem {r : Repo} (hr : repoB r = true) {x : Int} : x ∈ liveL r ↔ ∃ h ∈ r.Heads, x ∈ allA r h.At := by
  constructor
  · intro hx
    have h0 := idxT_mem.1 hx
    have hl : x.toNat < r.Commits.length := by
      rcases Nat.lt_or_ge x.toNat r.Commits.length with q | q
      · exact q
      · have := h0.2
        unfold mkd at this
        rw [List.getD_eq_getElem?_getD, List.getElem?_eq_none (by rw [liveM_len]; exact q)] at this
        cases this
    have e := live_has (r := r) hl
    rw [show ((x.toNat : Nat) : Int) = x by omega, hasB_iff.2 hx] at e
    obtain ⟨h, h1, h2⟩ := List.any_eq_true.1 e.symm
    exact ⟨h, h1, hasB_iff.1 h2⟩
  · rintro ⟨h, h1, h2⟩
    have hm := allA_mem h2
    have e := live_has (r := r) (j := x.toNat) (by omega)
    rw [show ((x.toNat : Nat) : Int) = x by omega] at e
    refine hasB_iff.1 (e.trans ?_)
    exact List.any_eq_true.2 ⟨h, h1, hasB_iff.2 h2⟩
theorem live_range {r : Repo} (hr : repoB r = true) {x : Int} (hx : x ∈ liveL r) : 0 ≤ x ∧ x ≤ (r.Commits.length : Int) - 1 := by
  obtain ⟨h, _, h2⟩ := (liveL_mem hr).1 hx
  exact allA_mem h2
theorem live_rc {r : Repo} (hr : repoB r = true) {x : Int} (hx : x ∈ liveL r) {c : Nat} (hc : Rc r x.toNat c) : (c : Int) ∈ liveL r := by
  obtain ⟨h, h1, h2⟩ := (liveL_mem hr).1 hx
  have ha := head_at hr h1
  obtain ⟨q0, q1⟩ := (allA_iff hr ha.1 ha.2.1 x).1 h2
  exact (liveL_mem hr).2 ⟨h, h1, (allA_iff hr ha.1 ha.2.1 _).2 ⟨Int.natCast_nonneg _, q1.trans hc⟩⟩
theorem live_par {r : Repo} (hr : repoB r = true) {x p : Int} (hx : x ∈ liveL r) (hp : p ∈ parsAt r x.toNat) : p ∈ liveL r := by
  have hm := live_range hr hx
  have h0 := ((pars_small hr (i := x.toNat) (by omega)).2 p hp).1
  have := live_rc hr hx (Rc.step (Rc.refl _) hp)
  rwa [show ((p.toNat : Nat) : Int) = p by omega] at this
theorem live_head {r : Repo} (hr : repoB r = true) {h : Head} (hh : h ∈ r.Heads) : h.At ∈ liveL r := by
  have ha := head_at hr hh
  exact (liveL_mem hr).2 ⟨h, hh, allA_self hr ha.1 ha.2.1⟩
def renC (l : List Int) (c : Commit) : Commit := ⟨c.Parents.map (plI l), c.Who, c.Tree⟩
def renH (l : List Int) (h : Head) : Head := ⟨h.Name, plI l h.At⟩
def keepR (r : Repo) : Repo := ⟨(liveL r).map fun i => renC (liveL r) (r.Commits.getD i.toNat noCommit), r.Heads.map (renH (liveL r))⟩
theorem keepR_len (r : Repo) : (keepR r).Commits.length = (liveL r).length := by simp [keepR]
theorem keepR_at {r : Repo} {i : Nat} (hi : i < (liveL r).length) : (keepR r).Commits.getD i noCommit = renC (liveL r) (r.Commits.getD (liveL r)[i].toNat noCommit) := by
  have hx : (keepR r).Commits[i]? = some (renC (liveL r) (r.Commits.getD (liveL r)[i].toNat noCommit)) := by
    unfold keepR
    simp only
    rw [List.getElem?_map, List.getElem?_eq_getElem hi]
    rfl
  exact getC_of hx
theorem keepR_pars {r : Repo} {i : Nat} (hi : i < (liveL r).length) : parsAt (keepR r) i = (parsAt r (liveL r)[i].toNat).map (plI (liveL r)) := by
  unfold parsAt
  rw [keepR_at hi]
  rfl
theorem keepR_ok {r : Repo} (hr : repoB r = true) : repoB (keepR r) = true := by
  have hA := liveL_asc r
  have hR := repoB_iff.1 hr
  have hle := liveL_len r
  refine repoB_iff.2 ⟨⟨by rw [keepR_len]; omega, ?_⟩, headsB_iff.2 ⟨fun h hh => ?_, ?_, ?_⟩⟩
  · refine allN_iff.2 fun i _ hi => ?_
    rw [keepR_len, Nat.zero_add] at hi
    have hm := List.getElem_mem hi
    have hx := live_range hr hm
    have hc := repo_com hr (i := (liveL r)[i].toNat) (by omega)
    rw [keepR_at hi]
    unfold comB at hc ⊢
    simp only [Bool.and_eq_true, List.all_eq_true] at hc ⊢
    obtain ⟨c1, c2, c3, c4⟩ := hc
    have hsub : ∀ p ∈ (r.Commits.getD (liveL r)[i].toNat noCommit).Parents, p ∈ liveL r := fun p hp => live_par hr hm hp
    refine ⟨fun q hq => ?_, by simpa [renC] using c2, ?_, c4⟩
    · obtain ⟨p, hp, rfl⟩ := List.mem_map.1 hq
      have hu := upB_iff.1 (c1 p hp)
      have h1 := plI_mem (hsub p hp)
      have h2 := plI_lt hA (hsub p hp) hm (by omega)
      rw [plI_at hA hi] at h2
      exact upB_iff.2 (by omega)
    · show twoB ((r.Commits.getD (liveL r)[i].toNat noCommit).Parents.map (plI (liveL r))) = true
      revert c3 hsub
      generalize (r.Commits.getD (liveL r)[i].toNat noCommit).Parents = ps
      intro c3 hsub
      match ps with
      | [] => rfl
      | [p] => rfl
      | [p, q] =>
        have hne : p ≠ q := by simpa [twoB] using c3
        have : plI (liveL r) p ≠ plI (liveL r) q := fun e => hne (plI_inj hA (hsub p (by simp)) (hsub q (by simp)) e)
        simpa [twoB] using this
      | p :: q :: s :: t => rfl
  · obtain ⟨g, hg, rfl⟩ := List.mem_map.1 hh
    have h1 := plI_mem (live_head hr hg)
    exact ⟨(head_at hr hg).2.2, upB_iff.2 (by rw [keepR_len]; show 0 ≤ plI _ _ ∧ plI _ _ ≤ _; omega)⟩
  · show ((r.Heads.map (renH (liveL r))).Pairwise fun x y => x.Name < y.Name)
    rw [List.pairwise_map]
    exact (headsB_iff.1 hR.2).2.1
  · show (r.Heads.map _).length ≤ 5
    rw [List.length_map]
    exact (headsB_iff.1 hR.2).2.2

theorem rc_keep {r : Repo} (hr : repoB r = true) {i : Nat} (hi : i < (liveL r).length) {j : Nat} (h : Rc (keepR r) i j) : ∃ hj : j < (liveL r).length, Rc r (liveL r)[i].toNat (liveL r)[j].toNat := by
  induction h with
  | refl => exact ⟨hi, Rc.refl _⟩
  | @step b p hb hp ih =>
    obtain ⟨hj, q⟩ := ih
    rw [keepR_pars hj] at hp
    obtain ⟨x, hx, rfl⟩ := List.mem_map.1 hp
    have hm := List.getElem_mem hj
    have hxl := live_par hr hm hx
    obtain ⟨_, _, hlt, e⟩ := plI_mem hxl
    refine ⟨hlt, ?_⟩
    rw [e]
    exact Rc.step q hx
theorem rc_back {r : Repo} (hr : repoB r = true) {i : Nat} (hi : i < (liveL r).length) {c : Nat} (h : Rc r (liveL r)[i].toNat c) : Rc (keepR r) i (plI (liveL r) (c : Int)).toNat := by
  have hm := List.getElem_mem hi
  have hx := live_range hr hm
  generalize ha : (liveL r)[i].toNat = a at h
  induction h with
  | refl =>
    have e : ((a : Nat) : Int) = (liveL r)[i] := by omega
    rw [e, plI_at (liveL_asc r) hi, Int.toNat_natCast]
    exact Rc.refl _
  | @step b p hb hp ih =>
    have hbl : (b : Int) ∈ liveL r := live_rc hr hm (by rw [ha]; exact hb)
    obtain ⟨_, _, hlt, e⟩ := plI_mem hbl
    have hp0 := ((pars_small hr (i := b) (by have := live_range hr hbl; omega)).2 p hp).1
    refine Rc.step ih (p := plI (liveL r) ((p.toNat : Nat) : Int)) ?_
    rw [keepR_pars hlt, e, Int.toNat_natCast]
    refine List.mem_map.2 ⟨p, hp, ?_⟩
    rw [show ((p.toNat : Nat) : Int) = p by omega]
theorem allA_keep {r : Repo} (hr : repoB r = true) {a : Int} (ha : a ∈ liveL r) : allA (keepR r) (plI (liveL r) a) = (allA r a).map (plI (liveL r)) := by
  have hA := liveL_asc r
  have hk := keepR_ok hr
  have hx := live_range hr ha
  obtain ⟨p0, p1, hlt, e⟩ := plI_mem ha
  have hsub : ∀ x ∈ allA r a, x ∈ liveL r := fun x hm => by
    obtain ⟨q0, q1⟩ := (allA_iff hr hx.1 hx.2 x).1 hm
    have := live_rc hr ha q1
    rwa [show ((x.toNat : Nat) : Int) = x by omega] at this
  refine AscI.ext (idxT_asc _) (map_plI_asc hA (idxT_asc _) hsub) fun y => ?_
  rw [allA_iff hk p0 (by rw [keepR_len]; omega), List.mem_map]
  constructor
  · rintro ⟨y0, h⟩
    obtain ⟨hj, q⟩ := rc_keep hr hlt h
    rw [e] at q
    have hm2 := List.getElem_mem hj
    have hx2 := live_range hr hm2
    refine ⟨(liveL r)[y.toNat], (allA_iff hr hx.1 hx.2 _).2 ⟨hx2.1, q⟩, ?_⟩
    rw [plI_at hA hj]
    omega
  · rintro ⟨x, hxm, rfl⟩
    obtain ⟨q0, q1⟩ := (allA_iff hr hx.1 hx.2 x).1 hxm
    refine ⟨(plI_mem (hsub x hxm)).1, ?_⟩
    have := rc_back hr hlt (c := x.toNat) (by rw [e]; exact q1)
    rwa [show ((x.toNat : Nat) : Int) = x by omega] at this
theorem keepR_head {r : Repo} (hr : repoB r = true) {h : Head} (hh : h ∈ r.Heads) : atB (keepR r) h.Name = plI (liveL r) h.At :=
  (at_here (r := keepR r) (keepR_ok hr) (x := renH (liveL r) h) (List.mem_map.2 ⟨h, hh, rfl⟩)).1
/-- All that is kept is kept again. -/
theorem live_keep {r : Repo} (hr : repoB r = true) : liveL (keepR r) = (List.range (liveL r).length).map Int.ofNat := by
  have hk := keepR_ok hr
  have hasc : AscI ((List.range (liveL r).length).map Int.ofNat) := by
    unfold AscI
    rw [List.pairwise_map]
    exact (range_asc _).imp fun hab => Int.ofNat_lt.2 hab
  refine AscI.ext (liveL_asc _) hasc fun y => ?_
  rw [List.mem_map]
  constructor
  · intro hy
    have hx := live_range hk hy
    rw [keepR_len] at hx
    exact ⟨y.toNat, List.mem_range.2 (by omega), by show ((y.toNat : Nat) : Int) = y; omega⟩
  · rintro ⟨i, hi, rfl⟩
    rw [List.mem_range] at hi
    have hm := List.getElem_mem hi
    obtain ⟨h, h1, h2⟩ := (liveL_mem hr).1 hm
    refine (liveL_mem hk).2 ⟨renH (liveL r) h, List.mem_map.2 ⟨h, h1, rfl⟩, ?_⟩
    show _ ∈ allA (keepR r) (plI (liveL r) h.At)
    rw [allA_keep hr (live_head hr h1)]
    refine List.mem_map.2 ⟨_, h2, ?_⟩
    rw [plI_at (liveL_asc r) hi]
    rfl
theorem keep_keep {r : Repo} (hr : repoB r = true) : keepR (keepR r) = keepR r := by
  have hk := keepR_ok hr
  have hL := live_keep hr
  have hpl : ∀ p : Int, 0 ≤ p → p < ((liveL r).length : Int) → plI (liveL (keepR r)) p = p := fun p h0 h1 => by
    have hA := liveL_asc (keepR r)
    have hi : p.toNat < (liveL (keepR r)).length := by rw [hL]; simp; omega
    have e : (liveL (keepR r))[p.toNat] = p := by
      simp only [hL, List.getElem_map, List.getElem_range]
      show ((p.toNat : Nat) : Int) = p
      omega
    have := plI_at hA hi
    rw [e] at this
    rw [this]
    omega
  have hC : (keepR (keepR r)).Commits = (keepR r).Commits := by
    apply List.ext_getElem?
    intro i
    by_cases hi : i < (liveL r).length
    · have hi2 : i < (liveL (keepR r)).length := by rw [hL]; simpa using hi
      have e : (liveL (keepR r))[i] = (i : Int) := by simp [hL]
      have h1 := keepR_at (r := keepR r) hi2
      rw [e, Int.toNat_natCast] at h1
      have hlen : i < (keepR r).Commits.length := by rw [keepR_len]; exact hi
      have hlen2 : i < (keepR (keepR r)).Commits.length := by rw [keepR_len]; exact hi2
      rw [List.getElem?_eq_getElem hlen, List.getElem?_eq_getElem hlen2]
      congr 1
      have g1 := getC_of (List.getElem?_eq_getElem hlen)
      have g2 := getC_of (List.getElem?_eq_getElem hlen2)
      rw [g2] at h1
      rw [g1] at h1
      rw [h1]
      have hps : ∀ p ∈ ((keepR r).Commits[i]).Parents, plI (liveL (keepR r)) p = p := fun p hp => by
        have hp2 : p ∈ parsAt (keepR r) i := by unfold parsAt; rw [g1]; exact hp
        have := (pars_small hk hlen).2 p hp2
        exact hpl p this.1 (by omega)
      unfold renC
      rw [List.map_congr_left (g := id) hps, List.map_id]
    · rw [List.getElem?_eq_none (by rw [keepR_len, hL]; simpa using hi), List.getElem?_eq_none (by rw [keepR_len]; omega)]
  have hH : (keepR (keepR r)).Heads = (keepR r).Heads := by
    show (keepR r).Heads.map (renH (liveL (keepR r))) = (keepR r).Heads
    have : ∀ h ∈ (keepR r).Heads, renH (liveL (keepR r)) h = h := fun h hh => by
      have := head_at hk hh
      rw [keepR_len] at this
      unfold renH
      rw [hpl h.At this.1 (by omega)]
    rw [List.map_congr_left (g := id) this, List.map_id]
  have : ∀ a b : Repo, a.Commits = b.Commits → a.Heads = b.Heads → a = b := fun a b e1 e2 => by cases a; cases b; simp_all
  exact this _ _ hC hH
end Go.Vm

namespace Go.Vm
open Go Go.Sx
set_option linter.unusedSimpArgs false
set_option linter.unusedVariables false

def fit64 (p : Int) : Prop := -9223372036854775808 ≤ p ∧ p ≤ 9223372036854775807
def half (f : Int → Int) (P : List Int) (k : Nat) : List Int := (P.take k).map f ++ P.drop k
theorem half_len (f : Int → Int) (P : List Int) (k : Nat) : (half f P k).length = P.length := by unfold half; simp; omega
theorem half_at {f : Int → Int} {P : List Int} {k : Nat} (h : k < P.length) : (half f P k)[k]? = some P[k] := by
  unfold half
  rw [List.getElem?_append_right (by simp; omega)]
  simp [Nat.min_eq_left (Nat.le_of_lt h)]
theorem half_set {f : Int → Int} {P : List Int} {k : Nat} (h : k < P.length) : (half f P k).set k (f P[k]) = half f P (k + 1) := by
  unfold half
  have hl : ((P.take k).map f).length = k := by simp; omega
  rw [List.set_append_right _ _ (by omega), hl, Nat.sub_self, List.drop_eq_getElem_cons h, List.set_cons_zero, List.take_add_one, List.getElem?_eq_getElem h, List.map_append, List.append_assoc]
  rfl
theorem half_end (f : Int → Int) (P : List Int) : half f P P.length = P.map f := by unfold half; simp
section
variable {r : Repo} {has : List Int} {sent : List Commit}
end
end Go.Vm

namespace Go.Vm
open Go Go.Sx
set_option linter.unusedSimpArgs false
set_option linter.unusedVariables false

def placeB (l : List Int) (n : Int) : Int := bif hasB l n then plI l n else -1
theorem placeB_in {l : List Int} {n : Int} (h : n ∈ l) : placeB l n = plI l n := by unfold placeB; rw [hasB_iff.2 h]; rfl
theorem place_drop {l : List Int} {n : Int} {i : Nat} (hi : i < l.length) : (bif hasB (l.drop i) n then ((i + (l.drop i).idxOf n : Nat) : Int) else -1) = bif l[i] == n then (i : Int) else (bif hasB (l.drop (i + 1)) n then ((i + 1 + (l.drop (i + 1)).idxOf n : Nat) : Int) else -1) := by
  rw [List.drop_eq_getElem_cons hi, List.idxOf_cons]
  unfold hasB
  rw [List.any_cons]
  cases l[i] == n with
  | true => simp
  | false =>
    simp only [Bool.false_or, cond_false]
    congr 1
    omega
theorem place_l1 {l : List Int} (hl : l.length ≤ 1000000) {n : Int} : ∀ (k i m : Nat), i + k = l.length → k < m →
    spec_l14Place_l1 l n (fun _ _ => some (-1)) m 0 (i : Int) = some (bif hasB (l.drop i) n then ((i + (l.drop i).idxOf n : Nat) : Int) else -1)
  | k, i, 0, _, hm => by omega
  | 0, i, m + 1, hi, _ => by
    obtain rfl : i = l.length := by omega
    simp only [spec_l14Place_l1, end_of, cond_false, List.drop_length]
    rfl
  | k + 1, i, m + 1, hi, hm => by
    have hlt : i < l.length := by omega
    have hx : l[i]? = some l[i] := List.getElem?_eq_getElem hlt
    simp only [spec_l14Place_l1, lt_of hx, gi_of hx, cond_true, Option.bind_some, w64_ix hlt (show l.length ≤ maxi by unfold maxi; omega)]
    rw [place_drop hlt, place_l1 hl k (i + 1) m (by omega) (by omega)]
    cases l[i] == n <;> rfl
theorem sPlace_eq {l : List Int} (hl : l.length ≤ 1000000) (n : Int) : spec_l14Place l n = some (placeB l n) := by
  unfold spec_l14Place
  simp only [jn, fuel0]
  have e := place_l1 hl (n := n) l.length 0 (l.length + 1) (by omega) (by omega)
  refine e.trans ?_
  unfold placeB plI
  simp

theorem half_self (f : Int → Int) (P : List Int) : half f P 0 = P := by simp [half]
theorem skeep_l2 {l : List Int} (hl : l.length ≤ 1000000) {P : List Int} (hP : P.length ≤ 1000000) {K : Int → List Int → Option Repo} : ∀ (j k m : Nat), k + j = P.length → j < m →
    spec_KeepOnly_l2 l K m (k : Int) (half (placeB l) P k) = K (P.length : Int) (P.map (placeB l))
  | j, k, 0, _, hm => by omega
  | 0, k, m + 1, hk, _ => by
    obtain rfl : k = P.length := by omega
    rw [half_end]
    simp only [spec_KeepOnly_l2, show (P.length : Int) = ((P.map (placeB l)).length : Int) by rw [List.length_map], end_of, cond_false]
  | j + 1, k, m + 1, hk, hm => by
    have hlt : k < P.length := by omega
    have hx : (half (placeB l) P k)[k]? = some P[k] := half_at hlt
    simp only [spec_KeepOnly_l2, lt_of hx, gi_of hx, cond_true, Option.bind_some, sPlace_eq hl, siM_of (show k < (half (placeB l) P k).length by rw [half_len]; exact hlt), half_set hlt, w64_ix hlt (show P.length ≤ maxi by unfold maxi; omega)]
    exact skeep_l2 hl hP j (k + 1) m (by omega) (by omega)
theorem place_pars {r : Repo} (hr : repoB r = true) {x : Int} (hx : x ∈ liveL r) : (parsAt r x.toNat).map (placeB (liveL r)) = (parsAt r x.toNat).map (plI (liveL r)) :=
  List.map_congr_left fun p hp => placeB_in (live_par hr hx hp)
theorem sKeepOnly_eq {r : Repo} (h : RpB r) : spec_KeepOnly r = some (bif repoB r then keepR r else zeroR) := by
  unfold spec_KeepOnly
  rw [l7Ok_eq h, Option.bind_some]
  cases hr : repoB r with
  | false => rfl
  | true =>
    have hs := repo_small hr
    have hle := liveL_len r
    rw [Bool.not_true, cond_false, cond_true, l14Live_eq hr, Option.bind_some]
    simp only [jn, fuel0]
    rw [loop_filter (xs := liveL r) (p := fun _ => true) (g := fun i => renC (liveL r) (r.Commits.getD i.toNat noCommit)) (Z := fun acc => spec_KeepOnly_l3 r (liveL r) (fun _ y342 y345 => some (Vm.Repo.mk y342 y345)) (r.Heads.length + 1) 0 acc []) (f := fun m acc i => spec_KeepOnly_l1 r (liveL r) _ m i acc []) (fun m i x acc hx ha => by
      have hxm := List.mem_of_getElem? hx
      have hrg := live_range hr hxm
      have hc : CB (r.Commits.getD x.toNat noCommit) := by
        have hg : r.Commits[x.toNat]? = some (r.Commits[x.toNat]'(by omega)) := List.getElem?_eq_getElem _
        rw [getC_of hg]
        exact h.cat hg
      have hps := pars_small hr (i := x.toNat) (by omega)
      unfold parsAt at hps
      have hix := ix_of hx
      simp only [spec_KeepOnly_l1, jn, lt_of hx, gi_of hx, cond_true, Option.bind_some, com_atI hrg.1 hrg.2, l7CopyCommit_eq hc, fuel0]
      have e := skeep_l2 (l := liveL r) (by omega) (P := (r.Commits.getD x.toNat noCommit).Parents) (by omega) (K := fun (_ : Int) (y255 : List Int) => (apM acc [Vm.Commit.mk y255 (r.Commits.getD x.toNat noCommit).Who (r.Commits.getD x.toNat noCommit).Tree]).bind fun q321 => spec_KeepOnly_l1 r (liveL r) (fun (_ : Int) (y40 : List Vm.Commit) (y43 : List Vm.Head) => spec_KeepOnly_l3 r (liveL r) (fun _ y342 y345 => some (Vm.Repo.mk y342 y345)) (r.Heads.length + 1) 0 y40 y43) m (w64 ((i : Int) + 1)) q321 []) (r.Commits.getD x.toNat noCommit).Parents.length 0 ((r.Commits.getD x.toNat noCommit).Parents.length + 1) (by omega) (by omega)
      rw [half_self] at e
      refine e.trans ?_
      rw [show (r.Commits.getD x.toNat noCommit).Parents.map (placeB (liveL r)) = (r.Commits.getD x.toNat noCommit).Parents.map (plI (liveL r)) from place_pars hr hxm]
      rw [ap1 (show acc.length ≤ 1048576 by omega), Option.bind_some, w64_ix hix (show (liveL r).length ≤ maxi by unfold maxi; omega)]
      rfl) (fun m acc => by simp only [spec_KeepOnly_l1, end_of, cond_false]) (by omega)]
    rw [List.filter_eq_self.2 (fun _ _ => rfl)]
    show spec_KeepOnly_l3 r (liveL r) _ (r.Heads.length + 1) 0 (keepR r).Commits [] = _
    rw [loop_filter (xs := r.Heads) (p := fun _ => true) (g := renH (liveL r)) (Z := fun acc => some (Repo.mk (keepR r).Commits acc)) (f := fun m acc i => spec_KeepOnly_l3 r (liveL r) _ m i (keepR r).Commits acc) (fun m i x acc hx ha => by
      have hix := ix_of hx
      simp only [spec_KeepOnly_l3, lt_of hx, gi_of hx, cond_true, Option.bind_some, sPlace_eq (show (liveL r).length ≤ 1000000 by omega), placeB_in (live_head hr (List.mem_of_getElem? hx)), ap1 (show acc.length ≤ 1048576 by omega), w64_ix hix (show r.Heads.length ≤ maxi by unfold maxi; omega)]
      rfl) (fun m acc => by simp only [spec_KeepOnly_l3, end_of, cond_false]) (by omega)]
    rw [List.filter_eq_self.2 (fun _ _ => rfl)]
    rfl

theorem ikeep_l2 {num : List Int} {f : Int → Int} {c : Commit} (hp : ∀ p ∈ c.Parents, gi num p = some (f p)) (hl : c.Parents.length ≤ 1000) {w : Str} {t : List File} {K : Int → List Int → Str → List File → Option Repo} :
    impl_KeepOnly_l2 num c K (c.Parents.length + 1) 0 [] w t = K (c.Parents.length : Int) (c.Parents.map f) w t := by
  have e := loop_filter (xs := c.Parents) (p := fun _ => true) (g := f) (Z := fun acc => K (c.Parents.length : Int) acc w t) (f := fun m acc i => impl_KeepOnly_l2 num c K m i acc w t) (fun m i x acc hx ha => by
    have hix := ix_of hx
    simp only [impl_KeepOnly_l2, lt_of hx, gi_of hx, cond_true, Option.bind_some, hp x (List.mem_of_getElem? hx), ap1 (show acc.length ≤ 1048576 by omega), w64_ix hix (show c.Parents.length ≤ maxi by unfold maxi; omega)]) (fun m acc => by simp only [impl_KeepOnly_l2, end_of, cond_false]) (m := c.Parents.length + 1) (by omega)
  rw [List.filter_eq_self.2 (fun _ _ => rfl)] at e
  exact e
theorem gi_getN {d : List Int} {p : Int} (h0 : 0 ≤ p) (h : p.toNat < d.length) : gi d p = some (d.getD p.toNat 0) := by
  have := gi_getI (l := d) h
  rwa [show ((p.toNat : Nat) : Int) = p by omega] at this
/-- What the numbers tell when so many commits have been kept. -/
def NumT (r : Repo) (i : Nat) (num : List Int) : Prop := num.length = r.Commits.length ∧ ∀ j (hj : j < (liveL r).length), j < i → num.getD ((liveL r)[j]).toNat 0 = (j : Int)
theorem numT_set {r : Repo} (hr : repoB r = true) {i : Nat} (hi : i < (liveL r).length) {num : List Int} (h : NumT r i num) : NumT r (i + 1) (num.set ((liveL r)[i]).toNat (i : Int)) := by
  have hri := live_range hr (List.getElem_mem hi)
  refine ⟨by rw [List.length_set]; exact h.1, fun j hj hji => ?_⟩
  have hrj := live_range hr (List.getElem_mem hj)
  rw [List.getD_eq_getElem?_getD]
  rcases Nat.lt_or_ge j i with q | q
  · have hlt := List.pairwise_iff_getElem.1 (liveL_asc r) j i hj hi q
    rw [List.getElem?_set_ne (by omega), ← List.getD_eq_getElem?_getD]
    exact h.2 j hj q
  · obtain rfl : j = i := by omega
    rw [List.getElem?_set_self (by rw [h.1]; omega)]
    rfl
theorem ikeep_l1 {r : Repo} (h : RpB r) (hr : repoB r = true) {K : Int → List Commit → List Head → List Int → Option Repo} : ∀ (k i m : Nat) (num : List Int), i + k = (liveL r).length → k < m → NumT r i num →
    ∃ num', NumT r (liveL r).length num' ∧ impl_KeepOnly_l1 r (liveL r) K m (i : Int) (((liveL r).take i).map fun i => renC (liveL r) (r.Commits.getD i.toNat noCommit)) [] num = K ((liveL r).length : Int) ((liveL r).map fun i => renC (liveL r) (r.Commits.getD i.toNat noCommit)) [] num'
  | k, i, 0, num, _, hm, _ => by omega
  | 0, i, m + 1, num, hi, _, hN => by
    obtain rfl : i = (liveL r).length := by omega
    refine ⟨num, hN, ?_⟩
    simp only [impl_KeepOnly_l1, end_of, cond_false, List.take_length]
  | k + 1, i, m + 1, num, hi, hm, hN => by
    have hs := repo_small hr
    have hle := liveL_len r
    have hlt : i < (liveL r).length := by omega
    have hx : (liveL r)[i]? = some (liveL r)[i] := List.getElem?_eq_getElem hlt
    have hxm := List.getElem_mem hlt
    have hrg := live_range hr hxm
    have hN1 := numT_set hr hlt hN
    have hg : r.Commits[(liveL r)[i].toNat]? = some (r.Commits[(liveL r)[i].toNat]'(by omega)) := List.getElem?_eq_getElem _
    have hc : CB (r.Commits.getD (liveL r)[i].toNat noCommit) := by rw [getC_of hg]; exact h.cat hg
    have hps := pars_small hr (i := (liveL r)[i].toNat) (by omega)
    unfold parsAt at hps
    have e1 : siM num (liveL r)[i] (i : Int) = some (num.set ((liveL r)[i]).toNat (i : Int)) := by
      have := siM_of (xs := num) (i := (liveL r)[i].toNat) (by rw [hN.1]; omega) (i : Int)
      rwa [show (((liveL r)[i].toNat : Nat) : Int) = (liveL r)[i] by omega] at this
    have el : (((liveL r).take i).map fun i => renC (liveL r) (r.Commits.getD i.toNat noCommit)).length = i := by rw [List.length_map, List.length_take]; omega
    have hpar : ∀ p ∈ (r.Commits.getD (liveL r)[i].toNat noCommit).Parents, gi (num.set ((liveL r)[i]).toNat (i : Int)) p = some (plI (liveL r) p) := fun p hp => by
      have hpl := live_par hr hxm (p := p) hp
      have hpr := live_range hr hpl
      have hlt2 := plI_lt (liveL_asc r) hpl hxm (by have := hps.2 p hp; omega)
      rw [plI_at (liveL_asc r) hlt] at hlt2
      obtain ⟨q0, q1, q2, q3⟩ := plI_mem hpl
      rw [gi_getN hpr.1 (by rw [hN1.1]; omega)]
      have := hN1.2 _ q2 (by omega)
      rw [q3] at this
      rw [this]
      rfl
    have et : impl_Repo_tree r (liveL r)[i] = some (r.Commits.getD (liveL r)[i].toNat noCommit).Tree := by
      unfold impl_Repo_tree
      rw [decide_eq_false (by omega), cond_false, com_atI hrg.1 hrg.2, Option.bind_some]
    simp only [impl_KeepOnly_l1, jn, lt_of hx, gi_of hx, cond_true, Option.bind_some, gi_getN hrg.1 (show (liveL r)[i].toNat < num.length by rw [hN.1]; omega), el, e1, com_atI hrg.1 hrg.2, et, copyTree_eq hc.tree, fuel0]
    rw [ikeep_l2 hpar (by omega), ap1 (by rw [el]; omega), Option.bind_some, w64_ix hlt (show (liveL r).length ≤ maxi by unfold maxi; omega)]
    obtain ⟨num', n1, n2⟩ := ikeep_l1 (K := K) h hr k (i + 1) m _ (by omega) (by omega) hN1
    refine ⟨num', n1, ?_⟩
    rw [← n2, List.take_succ_eq_append_getElem hlt, List.map_append]
    rfl
theorem iKeepOnly_eq {r : Repo} (h : RpB r) : impl_KeepOnly r = some (bif repoB r then keepR r else zeroR) := by
  unfold impl_KeepOnly
  rw [RepoOk_eq h, Option.bind_some]
  cases hr : repoB r with
  | false => rfl
  | true =>
    have hs := repo_small hr
    have hle := liveL_len r
    rw [Bool.not_true, cond_false, cond_true, mkM_of (by simp [lim]; omega), Option.bind_some, iLive_eq hr, Option.bind_some, listOf_eq (by rw [liveM_len]; omega), Option.bind_some]
    simp only [jn, fuel0]
    show impl_KeepOnly_l1 r (liveL r) _ ((liveL r).length + 1) 0 [] [] _ = _
    obtain ⟨num, n1, n2⟩ := ikeep_l1 h hr (K := fun (_ : Int) (y54 : List Vm.Commit) (y57 : List Vm.Head) (y61 : List Int) => impl_KeepOnly_l3 r y61 (fun _ y479 y482 => some (Vm.Repo.mk y479 y482)) (r.Heads.length + 1) 0 y54 y57) (liveL r).length 0 ((liveL r).length + 1) (List.replicate r.Commits.length 0) (by omega) (by omega) ⟨by simp, fun j _ hj => by omega⟩
    refine n2.trans ?_
    show impl_KeepOnly_l3 r num _ (r.Heads.length + 1) 0 (keepR r).Commits [] = _
    rw [loop_filter (xs := r.Heads) (p := fun _ => true) (g := renH (liveL r)) (Z := fun acc => some (Repo.mk (keepR r).Commits acc)) (f := fun m acc i => impl_KeepOnly_l3 r num _ m i (keepR r).Commits acc) (fun m i x acc hx ha => by
      have hix := ix_of hx
      have hl := live_head hr (List.mem_of_getElem? hx)
      have hrg := live_range hr hl
      obtain ⟨q0, q1, q2, q3⟩ := plI_mem hl
      have e := n1.2 _ q2 q2
      rw [q3] at e
      have e2 : gi num x.At = some (plI (liveL r) x.At) := by
        rw [gi_getN hrg.1 (by rw [n1.1]; omega), e]
        rfl
      simp only [impl_KeepOnly_l3, lt_of hx, gi_of hx, cond_true, Option.bind_some, e2, ap1 (show acc.length ≤ 1048576 by omega), w64_ix hix (show r.Heads.length ≤ maxi by unfold maxi; omega)]
      rfl) (fun m acc => by simp only [impl_KeepOnly_l3, end_of, cond_false]) (by omega)]
    rw [List.filter_eq_self.2 (fun _ _ => rfl)]
    rfl

theorem drawKeepOnly_eq {code : List Byte} (h : code.length ≤ 1048576) : ∃ x, spec_DrawKeepOnly code = some x ∧ Drawn x := by
  unfold spec_DrawKeepOnly
  obtain ⟨b, e, hr⟩ := open0 h
  obtain ⟨x, q, e2, hx⟩ := loose_eq hr (by omega)
  rw [e, Option.bind_some, e2, Option.bind_some]
  exact ⟨x, rfl, hx⟩
theorem keepR_of {r : Repo} {z : Int} (hz : z ∈ liveL r) : (keepR r).Commits.getD (plI (liveL r) z).toNat noCommit = renC (liveL r) (r.Commits.getD z.toNat noCommit) := by
  obtain ⟨q0, q1, q2, q3⟩ := plI_mem hz
  rw [keepR_at q2, q3]
theorem keepR_rb {r : Repo} (h : RpB r) (hr : repoB r = true) : RpB (keepR r) := by
  have hs := repo_small hr
  have hle := liveL_len r
  refine ⟨by rw [keepR_len]; omega, fun c hc => ?_, by show (r.Heads.map _).length ≤ _; rw [List.length_map]; omega, fun x hx => ?_⟩
  · obtain ⟨i, hi, rfl⟩ := List.mem_map.1 hc
    have hrg := live_range hr hi
    have hg : r.Commits[i.toNat]? = some (r.Commits[i.toNat]'(by omega)) := List.getElem?_eq_getElem _
    have hc : CB (r.Commits.getD i.toNat noCommit) := by rw [getC_of hg]; exact h.cat hg
    exact ⟨by simp only [renC, List.length_map]; exact hc.par, hc.who, hc.tree⟩
  · obtain ⟨y, hy, rfl⟩ := List.mem_map.1 hx
    exact h.head y hy
theorem keepLaw_l1 {x : Repo} (hb : RpB x) (hr : repoB x = true) {K : Bool → Int → Option Bool} (hK : K false (x.Heads.length : Int) = some true) : laws_FnKeepOnly_l1 x (keepR x) K (x.Heads.length + 1) false 0 = some true := by
    have hs := repo_small hr
    have hle := liveL_len x
    have hkb := keepR_rb hb hr
    have hk := keepR_ok hr
    have hkl := keepR_len x
    rw [loop_all (n := x.Heads.length) (g := fun _ => true) (r0 := some false) (Z := some true) (f := fun m i => laws_FnKeepOnly_l1 x (keepR x) K m false i) (fun m i hi => by
      have hy : x.Heads[i]? = some x.Heads[i] := List.getElem?_eq_getElem hi
      have hm := List.getElem_mem hi
      have hl := live_head hr hm
      have hrg := live_range hr hl
      obtain ⟨p0, p1, p2, p3⟩ := plI_mem hl
      have u1 : upB x.Commits.length x.Heads[i].At = true := upB_iff.2 hrg
      have u2 : upB (keepR x).Commits.length (plI (liveL x) x.Heads[i].At) = true := upB_iff.2 (by rw [hkl]; omega)
      have t1 : treeOf x x.Heads[i].At = (treeAt x x.Heads[i].At.toNat, true) := by unfold treeOf; rw [hr, u1]; rfl
      have t2 : treeOf (keepR x) (plI (liveL x) x.Heads[i].At) = (treeAt x x.Heads[i].At.toNat, true) := by
        unfold treeOf; rw [hk, u2]
        show (treeAt (keepR x) _, true) = _
        unfold treeAt
        rw [keepR_of hl]
        rfl
      have a1 : ancAllB x x.Heads[i].At = allA x x.Heads[i].At := by unfold ancAllB; rw [hr, u1]; rfl
      have a2 : ancAllB (keepR x) (plI (liveL x) x.Heads[i].At) = (allA x x.Heads[i].At).map (plI (liveL x)) := by unfold ancAllB; rw [hk, u2, ← allA_keep hr hl]; rfl
      have ra : repoAt (keepR x) x.Heads[i].Name = plI (liveL x) x.Heads[i].At := by unfold repoAt; rw [hk, cond_true, keepR_head hr hm]
      have htb := tree_at_tb hb u1
      have hal := allA_len x x.Heads[i].At
      simp only [laws_FnKeepOnly_l1, jn, lt_of hy, gi_of hy, cond_true, Option.bind_some, repo_eta, iRepoTree_eq hb, iRepoTree_eq hkb, iRepoAt_eq hkb, ra, t1, t2, iAncAll_eq hb, iAncAll_eq hkb, a1, a2, Bool.not_true, cond_false, smTree_eq htb, beq_self_eq_true, List.length_map, bne_self_eq_false, fuel0]
      rw [loop_all (n := (allA x x.Heads[i].At).length) (g := fun _ => true) (r0 := some false) (Z := laws_FnKeepOnly_l1 x (keepR x) K m false (w64 ((i : Int) + 1))) (f := fun m k => laws_FnKeepOnly_l2 x (keepR x) (allA x x.Heads[i].At) ((allA x x.Heads[i].At).map (plI (liveL x))) _ m false k) (fun m' k hk' => by
        have hz : (allA x x.Heads[i].At)[k]? = some (allA x x.Heads[i].At)[k] := List.getElem?_eq_getElem hk'
        have hzm := List.getElem_mem hk'
        have hzl : (allA x x.Heads[i].At)[k] ∈ liveL x := (liveL_mem hr).2 ⟨_, hm, hzm⟩
        have hzr := live_range hr hzl
        obtain ⟨z0, z1, _, _⟩ := plI_mem hzl
        have hz2 : ((allA x x.Heads[i].At).map (plI (liveL x)))[k]? = some (plI (liveL x) (allA x x.Heads[i].At)[k]) := by rw [List.getElem?_map, hz]; rfl
        have uz : upB x.Commits.length (allA x x.Heads[i].At)[k] = true := upB_iff.2 hzr
        have hzt := tree_at_tb hb uz
        unfold treeAt at hzt
        simp only [laws_FnKeepOnly_l2, jn, lt_of hz, gi_of hz, gi_of hz2, cond_true, Option.bind_some, com_atI hzr.1 hzr.2, com_atI (r := keepR x) z0 (show plI (liveL x) (allA x x.Heads[i].At)[k] ≤ ((keepR x).Commits.length : Int) - 1 by rw [hkl]; omega), keepR_of hzl, renC, List.length_map, bne_self_eq_false, cond_false, smTree_eq hzt, beq_self_eq_true, Bool.not_true, w64_ix hk' (show (allA x x.Heads[i].At).length ≤ maxi by unfold maxi; omega)]) (fun m' => by simp only [laws_FnKeepOnly_l2, end_of, cond_false]) _ (by omega), allN_iff.2 (fun _ _ _ => rfl), cond_true, w64_ix hi (show x.Heads.length ≤ maxi by unfold maxi; omega)]) (fun m => by simp only [laws_FnKeepOnly_l1, end_of, cond_false, hK]) _ (by omega), allN_iff.2 (fun _ _ _ => rfl), cond_true]
theorem FnKeepOnly_eq {code : List Byte} (h : Bk.fit code) : laws_FnKeepOnly code = some true := by
  unfold laws_FnKeepOnly
  by_cases hc : (1048576 : Int) < (code.length : Int)
  · rw [decide_eq_true hc]; rfl
  obtain ⟨x, e, hx⟩ := drawKeepOnly_eq (code := code) (by omega)
  have hb := hx.rb
  rw [decide_eq_false hc, cond_false, e, Option.bind_some]
  simp only [repo_eta, iKeepOnly_eq hb, sKeepOnly_eq hb, Option.bind_some, jn, RepoOk_eq hb]
  cases hr : repoB x with
  | false =>
    have hz : RpB zeroR := ⟨by simp [zeroR], fun c hc => by simp [zeroR] at hc, by simp [zeroR], fun c hc => by simp [zeroR] at hc⟩
    simp only [cond_false, smRepo_eq hz, beq_self_eq_true, Option.bind_some, Bool.not_true, Bool.not_false, cond_true]
  | true =>
    have hs := repo_small hr
    have hle := liveL_len x
    have hkb := keepR_rb hb hr
    have hk := keepR_ok hr
    have hkl := keepR_len x
    simp only [cond_true, smRepo_eq hkb, beq_self_eq_true, Option.bind_some, Bool.not_true, cond_false, fuel0]
    refine keepLaw_l1 hb hr ?_
    have el : keptB x = liveL x := by unfold keptB; rw [hr]; rfl
    have eh : (keepR x).Heads.length = x.Heads.length := by simp [keepR]
    simp only [RepoOk_eq hkb, hk, Option.bind_some, cond_true, eh, hkl, beq_self_eq_true, iKeepLive_eq hb, el, iKeepOnly_eq hkb, keep_keep hr, smRepo_eq hkb]
end Go.Vm

namespace Go.Vm
open Go Go.Sx
set_option linter.unusedSimpArgs false
set_option linter.unusedVariables false
set_option linter.unusedSectionVars false

/-- What may be taken. -/
structure SentB (sent : List Commit) : Prop where
  len : sent.length ≤ 16
  cb : ∀ c ∈ sent, CB c
  fit : ∀ c ∈ sent, ∀ p ∈ c.Parents, fit64 p
theorem SentB.take {sent : List Commit} (h : SentB sent) (k : Nat) : SentB (sent.take k) :=
  ⟨Nat.le_trans (List.length_take_le' k sent) h.len, fun c hc => h.cb c (List.mem_of_mem_take hc), fun c hc => h.fit c (List.mem_of_mem_take hc)⟩
theorem SentB.set {sent : List Commit} (h : SentB sent) {c : Commit} (hc : CB c) (hf : ∀ p ∈ c.Parents, fit64 p) (k : Nat) : SentB (sent.set k c) :=
  ⟨by rw [List.length_set]; exact h.len, fun d hd => by
    rcases List.mem_or_eq_of_mem_set hd with q | q
    · exact h.cb d q
    · rw [q]; exact hc, fun d hd => by
    rcases List.mem_or_eq_of_mem_set hd with q | q
    · exact h.fit d q
    · rw [q]; exact hf⟩
section
variable {x : Repo} (hr : repoB x = true) {a b : Int} (ha : upB x.Commits.length a = true) (hb : upB x.Commits.length b = true)
include hr ha
include hb
end
end Go.Vm

namespace Go.Vm
open Go Go.Sx
set_option linter.unusedSimpArgs false
set_option linter.unusedVariables false

theorem AscI.lt {l : List Int} (h : AscI l) {i k : Nat} (hik : i < k) (hk : k < l.length) : l.getD i 0 < l.getD k 0 := by
  have h1 : i < l.length := by omega
  have := List.pairwise_iff_getElem.1 h i k h1 hk hik
  rw [getI_of (List.getElem?_eq_getElem h1), getI_of (List.getElem?_eq_getElem hk)]
  exact this
theorem AscI.inj {l : List Int} (h : AscI l) {i k : Nat} (hi : i < l.length) (hk : k < l.length) (e : l.getD i 0 = l.getD k 0) : i = k := by
  rcases Nat.lt_trichotomy i k with h1 | h1 | h1
  · have := h.lt h1 hk; omega
  · exact h1
  · have := h.lt h1 hi; omega
end Go.Vm
