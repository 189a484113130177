/- Plain law FnSendWay, and what it uses: what the models answer. Conditions: each law's own premises. -/
import Derived.Test.YtidkloialdageaaGreatDoorDGFnSendWaya
namespace Go.Vm
open Go Go.Sx
set_option linter.unusedSimpArgs false
set_option linter.unusedVariables false
def plI (l : List Int) (n : Int) : Int := (l.idxOf n : Int)
theorem AscI.nodup {l : List Int} (h : AscI l) : l.Nodup := List.Pairwise.imp (fun hab e => by rw [e] at hab; exact Int.lt_irrefl _ hab) h
theorem plI_at {l : List Int} (h : AscI l) {i : Nat} (hi : i < l.length) : plI l l[i] = (i : Int) := by
  unfold plI
  rw [h.nodup.idxOf_getElem i hi]
theorem plI_mem {l : List Int} {n : Int} (h : n ∈ l) : 0 ≤ plI l n ∧ plI l n < (l.length : Int) ∧ ∃ hi : (plI l n).toNat < l.length, l[(plI l n).toNat] = n := by
  unfold plI
  have hl := List.idxOf_lt_length_of_mem h
  refine ⟨Int.natCast_nonneg _, by omega, hl, ?_⟩
  exact List.getElem_idxOf hl
theorem plI_lt {l : List Int} (h : AscI l) {a b : Int} (ha : a ∈ l) (hb : b ∈ l) (hab : a < b) : plI l a < plI l b := by
  obtain ⟨i, hi, rfl⟩ := List.getElem_of_mem ha
  obtain ⟨j, hj, rfl⟩ := List.getElem_of_mem hb
  rw [plI_at h hi, plI_at h hj]
  have hp := List.pairwise_iff_getElem.1 h
  rcases Nat.lt_trichotomy i j with q | q | q
  · omega
  · subst q; exact absurd hab (Int.lt_irrefl _)
  · have := hp j i hj hi q
    omega
theorem plI_inj {l : List Int} (h : AscI l) {a b : Int} (ha : a ∈ l) (hb : b ∈ l) (e : plI l a = plI l b) : a = b := by
  rcases Int.lt_trichotomy a b with q | q | q
  · have := plI_lt h ha hb q; omega
  · exact q
  · have := plI_lt h hb ha q; omega
theorem liveL_asc (r : Repo) : AscI (liveL r) := idxT_asc _
theorem liveL_mem {r : Repo} (hr : repoB r = true) {x : Int} : x ∈ liveL r ↔ ∃ h ∈ r.Heads, x ∈ allA r h.At := by
  constructor
  · intro hx
    have h0 := idxT_mem.1 hx
    have hl : x.toNat < r.Commits.length := by
      rcases Nat.lt_or_ge x.toNat r.Commits.length with q | q
      · exact q
      · have := h0.2
        unfold mkd at this
        rw [List.getD_eq_getElem?_getD, List.getElem?_eq_none (by rw [liveM_len]; exact q)] at this
        cases this
    have e := live_has (r := r) hl
    rw [show ((x.toNat : Nat) : Int) = x by omega, hasB_iff.2 hx] at e
    obtain ⟨h, h1, h2⟩ := List.any_eq_true.1 e.symm
    exact ⟨h, h1, hasB_iff.1 h2⟩
  · rintro ⟨h, h1, h2⟩
    have hm := allA_mem h2
    have e := live_has (r := r) (j := x.toNat) (by omega)
    rw [show ((x.toNat : Nat) : Int) = x by omega] at e
    refine hasB_iff.1 (e.trans ?_)
    exact List.any_eq_true.2 ⟨h, h1, hasB_iff.2 h2⟩
theorem live_range {r : Repo} (hr : repoB r = true) {x : Int} (hx : x ∈ liveL r) : 0 ≤ x ∧ x ≤ (r.Commits.length : Int) - 1 := by
  obtain ⟨h, _, h2⟩ := (liveL_mem hr).1 hx
  exact allA_mem h2
theorem live_rc {r : Repo} (hr : repoB r = true) {x : Int} (hx : x ∈ liveL r) {c : Nat} (hc : Rc r x.toNat c) : (c : Int) ∈ liveL r := by
  obtain ⟨h, h1, h2⟩ := (liveL_mem hr).1 hx
  have ha := head_at hr h1
  obtain ⟨q0, q1⟩ := (allA_iff hr ha.1 ha.2.1 x).1 h2
  exact (liveL_mem hr).2 ⟨h, h1, (allA_iff hr ha.1 ha.2.1 _).2 ⟨Int.natCast_nonneg _, q1.trans hc⟩⟩
theorem live_par {r : Repo} (hr : repoB r = true) {x p : Int} (hx : x ∈ liveL r) (hp : p ∈ parsAt r x.toNat) : p ∈ liveL r := by
  have hm := live_range hr hx
  have h0 := ((pars_small hr (i := x.toNat) (by omega)).2 p hp).1
  have := live_rc hr hx (Rc.step (Rc.refl _) hp)
  rwa [show ((p.toNat : Nat) : Int) = p by omega] at this
theorem live_head {r : Repo} (hr : repoB r = true) {h : Head} (hh : h ∈ r.Heads) : h.At ∈ liveL r := by
  have ha := head_at hr hh
  exact (liveL_mem hr).2 ⟨h, hh, allA_self hr ha.1 ha.2.1⟩
def renC (l : List Int) (c : Commit) : Commit := ⟨c.Parents.map (plI l), c.Who, c.Tree⟩
def renH (l : List Int) (h : Head) : Head := ⟨h.Name, plI l h.At⟩
def keepR (r : Repo) : Repo := ⟨(liveL r).map fun i => renC (liveL r) (r.Commits.getD i.toNat noCommit), r.Heads.map (renH (liveL r))⟩
theorem keepR_len (r : Repo) : (keepR r).Commits.length = (liveL r).length := by simp [keepR]
theorem keepR_at {r : Repo} {i : Nat} (hi : i < (liveL r).length) : (keepR r).Commits.getD i noCommit = renC (liveL r) (r.Commits.getD (liveL r)[i].toNat noCommit) := by
  have hx : (keepR r).Commits[i]? = some (renC (liveL r) (r.Commits.getD (liveL r)[i].toNat noCommit)) := by
    unfold keepR
    simp only
    rw [List.getElem?_map, List.getElem?_eq_getElem hi]
    rfl
  exact getC_of hx
theorem keepR_ok {r : Repo} (hr : repoB r = true) : repoB (keepR r) = true := by
  have hA := liveL_asc r
  have hR := repoB_iff.1 hr
  have hle := liveL_len r
  refine repoB_iff.2 ⟨⟨by rw [keepR_len]; omega, ?_⟩, headsB_iff.2 ⟨fun h hh => ?_, ?_, ?_⟩⟩
  · refine allN_iff.2 fun i _ hi => ?_
    rw [keepR_len, Nat.zero_add] at hi
    have hm := List.getElem_mem hi
    have hx := live_range hr hm
    have hc := repo_com hr (i := (liveL r)[i].toNat) (by omega)
    rw [keepR_at hi]
    unfold comB at hc ⊢
    simp only [Bool.and_eq_true, List.all_eq_true] at hc ⊢
    obtain ⟨c1, c2, c3, c4⟩ := hc
    have hsub : ∀ p ∈ (r.Commits.getD (liveL r)[i].toNat noCommit).Parents, p ∈ liveL r := fun p hp => live_par hr hm hp
    refine ⟨fun q hq => ?_, by simpa [renC] using c2, ?_, c4⟩
    · obtain ⟨p, hp, rfl⟩ := List.mem_map.1 hq
      have hu := upB_iff.1 (c1 p hp)
      have h1 := plI_mem (hsub p hp)
      have h2 := plI_lt hA (hsub p hp) hm (by omega)
      rw [plI_at hA hi] at h2
      exact upB_iff.2 (by omega)
    · show twoB ((r.Commits.getD (liveL r)[i].toNat noCommit).Parents.map (plI (liveL r))) = true
      revert c3 hsub
      generalize (r.Commits.getD (liveL r)[i].toNat noCommit).Parents = ps
      intro c3 hsub
      match ps with
      | [] => rfl
      | [p] => rfl
      | [p, q] =>
        have hne : p ≠ q := by simpa [twoB] using c3
        have : plI (liveL r) p ≠ plI (liveL r) q := fun e => hne (plI_inj hA (hsub p (by simp)) (hsub q (by simp)) e)
        simpa [twoB] using this
      | p :: q :: s :: t => rfl
  · obtain ⟨g, hg, rfl⟩ := List.mem_map.1 hh
    have h1 := plI_mem (live_head hr hg)
    exact ⟨(head_at hr hg).2.2, upB_iff.2 (by rw [keepR_len]; show 0 ≤ plI _ _ ∧ plI _ _ ≤ _; omega)⟩
  · show ((r.Heads.map (renH (liveL r))).Pairwise fun x y => x.Name < y.Name)
    rw [List.pairwise_map]
    exact (headsB_iff.1 hR.2).2.1
  · show (r.Heads.map _).length ≤ 5
    rw [List.length_map]
    exact (headsB_iff.1 hR.2).2.2
end Go.Vm
namespace Go.Vm
open Go Go.Sx
set_option linter.unusedSimpArgs false
set_option linter.unusedVariables false
def fit64 (p : Int) : Prop := -9223372036854775808 ≤ p ∧ p ≤ 9223372036854775807
def onP (has : List Int) (i : Nat) (p : Int) : Bool := upB i p || (decide (p < 0) && decide (-(has.length : Int) ≤ p))
def toP (has : List Int) (base i : Nat) (p : Int) : Int := bif upB i p then (base : Int) + p else has.getD (-1 - p).toNat 0
def toC (has : List Int) (base i : Nat) (c : Commit) : Commit := ⟨c.Parents.map (toP has base i), c.Who, c.Tree⟩
def okS (has : List Int) : Nat → List Commit → Bool
  | _, [] => true
  | i, c :: cs => c.Parents.all (onP has i) && okS has (i + 1) cs
def sentL (has : List Int) (base : Nat) : Nat → List Commit → List Commit
  | _, [] => []
  | i, c :: cs => toC has base i c :: sentL has base (i + 1) cs
theorem sentL_len (has : List Int) (base : Nat) : ∀ (cs : List Commit) (i : Nat), (sentL has base i cs).length = cs.length
  | [], i => rfl
  | c :: cs, i => by simp [sentL, sentL_len has base cs]
theorem sentL_mem {has : List Int} {base : Nat} : ∀ {cs : List Commit} {i : Nat} {x : Commit}, x ∈ sentL has base i cs → ∃ j c, c ∈ cs ∧ x = toC has base j c
  | [], i, x, h => by simp [sentL] at h
  | c :: cs, i, x, h => by
    simp only [sentL, List.mem_cons] at h
    rcases h with rfl | h
    · exact ⟨i, c, by simp, rfl⟩
    · obtain ⟨j, d, hd, e⟩ := sentL_mem h
      exact ⟨j, d, List.mem_cons_of_mem _ hd, e⟩
def firstI (has : List Int) : Int := bif decide (0 < (has.length : Int)) then has.getD 0 0 else -1
def endAt (has : List Int) (base n : Nat) : Int := bif n == 0 then firstI has else ((base + n - 1 : Nat) : Int)
def takeR (r : Repo) (has : List Int) (sent : List Commit) (n : Str) : Repo := headR ⟨r.Commits ++ sentL has r.Commits.length 0 sent, r.Heads⟩ n (endAt has r.Commits.length sent.length)
def takeB (r : Repo) (has : List Int) (sent : List Commit) (n : Str) : Repo × Bool := bif repoB r then (bif okS has 0 sent && (anyB r has && repoB (takeR r has sent n)) then (takeR r has sent n, true) else (r, false)) else (zeroR, false)
section
variable {r : Repo} {has : List Int} {sent : List Commit}
theorem neg_w {p : Int} (h : fit64 p) : w64 (-1 - p) = -1 - p := w64_id (by unfold fit64 at h; omega) (by unfold fit64 at h; omega)
theorem had_at {p : Int} (h0 : p < 0) (h1 : -(has.length : Int) ≤ p) : gi has (-1 - p) = some (has.getD (-1 - p).toNat 0) := by
  have := gi_getI (l := has) (i := (-1 - p).toNat) (by omega)
  rwa [show (((-1 - p).toNat : Nat) : Int) = -1 - p by omega] at this
theorem ist_l2 (hr : RpB r) (hh : has.length ≤ 1048576) {i : Nat} (hi : i ≤ 1048576) {c : Commit} (hl : c.Parents.length ≤ 1048576) (hf : ∀ p ∈ c.Parents, fit64 p) {K : Bool → Int → List Commit → List Head → List Int → Str → List File → Option (Repo × Bool)} {b : Bool} {j1 : List Commit} {j2 : List Head} {s : Str} {t : List File} : ∀ (j k m : Nat), k + j = c.Parents.length → j < m →
    impl_SendTake_l2 r has i c K m b (k : Int) j1 j2 ((c.Parents.take k).map (toP has r.Commits.length i)) s t = bif (c.Parents.drop k).all (onP has i) then K b (c.Parents.length : Int) j1 j2 (c.Parents.map (toP has r.Commits.length i)) s t else some (r, false)
  | j, k, 0, _, hm => by omega
  | 0, k, m + 1, hk, _ => by
    obtain rfl : k = c.Parents.length := by omega
    simp only [impl_SendTake_l2, end_of, cond_false, List.drop_length, List.all_nil, cond_true, List.take_length]
  | j + 1, k, m + 1, hk, hm => by
    have hlt : k < c.Parents.length := by omega
    have hp := hf _ (List.getElem_mem hlt)
    have hx : c.Parents[k]? = some c.Parents[k] := List.getElem?_eq_getElem hlt
    have hbase := hr.coms
    have ih := ist_l2 (K := K) (b := b) (j1 := j1) (j2 := j2) (s := s) (t := t) hr hh hi hl hf j (k + 1) m (by omega) (by omega)
    have htk : (c.Parents.take (k + 1)).map (toP has r.Commits.length i) = (c.Parents.take k).map (toP has r.Commits.length i) ++ [toP has r.Commits.length i c.Parents[k]] := by
      rw [List.take_add_one, hx, List.map_append]; rfl
    have hap : ∀ v : Int, apM ((c.Parents.take k).map (toP has r.Commits.length i)) [v] = some ((c.Parents.take k).map (toP has r.Commits.length i) ++ [v]) := fun v => ap1 (by simp; omega)
    have hn0 : w64 (0 - (has.length : Int)) = -(has.length : Int) := by rw [w64_id (by omega) (by omega)]; omega
    rw [htk] at ih
    simp only [impl_SendTake_l2, jn, lt_of hx, gi_of hx, cond_true, Option.bind_some, within_eq, low_ix (show i ≤ maxi by unfold maxi; omega), w64_ix hlt (show c.Parents.length ≤ maxi by unfold maxi; omega), neg_w hp, hn0, hap, rOwn_eq hr]
    rw [show (decide ((0 : Int) ≤ c.Parents[k]) && decide (c.Parents[k] ≤ (i : Int) - 1)) = upB i c.Parents[k] from rfl, List.drop_eq_getElem_cons hlt, List.all_cons]
    cases hu : upB i c.Parents[k] with
    | true =>
      have hv : onP has i c.Parents[k] = true := by unfold onP; rw [hu]; rfl
      have ht : toP has r.Commits.length i c.Parents[k] = w64 ((r.Commits.length : Int) + c.Parents[k]) := by
        obtain ⟨u0, u1⟩ := upB_iff.1 hu
        unfold toP
        rw [hu, cond_true, w64_id (by omega) (by omega)]
      rw [cond_true, ← ht, hv, Bool.true_and]
      exact ih
    | false =>
      rw [cond_false]
      by_cases hd : (decide (-(has.length : Int) ≤ c.Parents[k]) && decide (c.Parents[k] ≤ -1)) = true
      · rw [hd, cond_true]
        simp only [Bool.and_eq_true, decide_eq_true_eq] at hd
        have hv : onP has i c.Parents[k] = true := by
          unfold onP
          rw [hu, decide_eq_true (show c.Parents[k] < 0 by omega), decide_eq_true (show -(has.length : Int) ≤ c.Parents[k] by omega)]; rfl
        have ht : toP has r.Commits.length i c.Parents[k] = has.getD (-1 - c.Parents[k]).toNat 0 := by unfold toP; rw [hu, cond_false]
        rw [had_at (by omega) (by omega), Option.bind_some, ← ht, hv, Bool.true_and]
        exact ih
      · have hv : onP has i c.Parents[k] = false := by
          unfold onP
          rw [hu, Bool.false_or]
          cases hq : decide (c.Parents[k] < 0) && decide (-(has.length : Int) ≤ c.Parents[k]) with
          | false => rfl
          | true =>
            exfalso
            simp only [Bool.and_eq_true, decide_eq_true_eq] at hq
            refine hd ?_
            simp only [Bool.and_eq_true, decide_eq_true_eq]
            omega
        have hd' : (decide (-(has.length : Int) ≤ c.Parents[k]) && decide (c.Parents[k] ≤ -1)) = false := by simpa using hd
        rw [hd', cond_false, hv, Bool.false_and]
        rfl
def endA (a : Int) (base : Nat) (i : Nat) (cs : List Commit) : Int := bif cs.length == 0 then a else ((base + i + cs.length - 1 : Nat) : Int)
theorem endA_cons (a : Int) (base i : Nat) (c : Commit) (cs : List Commit) : endA a base i (c :: cs) = endA ((base + i : Nat) : Int) base (i + 1) cs := by
  unfold endA
  cases cs with
  | nil => simp
  | cons d cs => simp <;> omega
theorem ist_l1 (hr : RpB r) (hh : has.length ≤ 1048576) (hs : r.Commits.length + sent.length ≤ 1048576) (hc : ∀ c ∈ sent, CB c) (hf : ∀ c ∈ sent, ∀ p ∈ c.Parents, fit64 p) {K : Bool → Int → Int → List Commit → List Head → List Commit → List Head → Option (Repo × Bool)} {hd : List Head} {F : Int → List Commit → Option (Repo × Bool)} (hK : ∀ b a i out j1 j2, K b a i j1 j2 out hd = F a out) : ∀ (k i m : Nat) (a : Int) (out : List Commit) (j1 : List Commit) (j2 : List Head), i + k = sent.length → k < m → out.length = r.Commits.length + i →
    impl_SendTake_l1 r has sent K m false a (i : Int) j1 j2 out hd = bif okS has i (sent.drop i) then F (endA a r.Commits.length i (sent.drop i)) (out ++ sentL has r.Commits.length i (sent.drop i)) else some (r, false)
  | k, i, 0, a, out, j1, j2, _, hm, _ => by omega
  | 0, i, m + 1, a, out, j1, j2, hi, _, ho => by
    obtain rfl : i = sent.length := by omega
    simp only [impl_SendTake_l1, end_of, cond_false, List.drop_length, okS, sentL, cond_true, List.append_nil, hK, endA, List.length_nil, beq_self_eq_true]
  | k + 1, i, m + 1, a, out, j1, j2, hi, hm, ho => by
    have hlt : i < sent.length := by omega
    have hx : sent[i]? = some sent[i] := List.getElem?_eq_getElem hlt
    have hcb := hc _ (List.getElem_mem hlt)
    have hpar := hcb.par
    have hpf := hf _ (List.getElem_mem hlt)
    have l2 := fun K' s t => ist_l2 (K := K') (b := false) (j1 := j1) (j2 := j2) (s := s) (t := t) hr hh (show i ≤ 1048576 by omega) hpar hpf sent[i].Parents.length 0 (sent[i].Parents.length + 1) (by omega) (by omega)
    simp only [impl_SendTake_l1, jn, lt_of hx, gi_of hx, cond_true, Option.bind_some, copyTree_eq hcb.tree, fuel0, w64_ix hlt (show sent.length ≤ maxi by unfold maxi; omega)]
    refine (l2 _ _ _).trans ?_
    rw [List.drop_zero, List.drop_eq_getElem_cons hlt]
    unfold okS sentL
    cases hon : sent[i].Parents.all (onP has i) with
    | false => rfl
    | true =>
      have ih := ist_l1 hr hh hs hc hf hK k (i + 1) m ((r.Commits.length + i : Nat) : Int) (out ++ [toC has r.Commits.length i sent[i]]) j1 j2 (by omega) (by omega) (by simp; omega)
      rw [cond_true, Bool.true_and, ap1 (show out.length ≤ 1048576 by omega), Option.bind_some, endA_cons, show (out.length : Int) = ((r.Commits.length + i : Nat) : Int) by omega]
      refine ih.trans ?_
      rw [List.append_assoc]
      rfl
theorem putH_self (n : Str) (a : Int) : ∀ (hs : List Head), (⟨n, a⟩ : Head) ∈ putH n a false hs
  | [] => by simp [putH]
  | h :: hs => by
    have ih := putH_self n a hs
    unfold putH
    cases hb : Op.bytesLess h.Name n with
    | false => simp
    | true => cases (h.Name != n) <;> simp [ih]
theorem toC_cb (hb : ∀ c ∈ sent, CB c) {c : Commit} (hc : c ∈ sent) (base j : Nat) : CB (toC has base j c) :=
  ⟨by show (c.Parents.map _).length ≤ _; rw [List.length_map]; exact (hb c hc).par, (hb c hc).who, (hb c hc).tree⟩
theorem take_rb (hr : RpB r) (hs : r.Commits.length + sent.length ≤ 1048576) (hc : ∀ c ∈ sent, CB c) : RpB ⟨r.Commits ++ sentL has r.Commits.length 0 sent, r.Heads⟩ :=
  ⟨by simp [sentL_len]; omega, fun x hx => by
    rcases List.mem_append.1 hx with h1 | h1
    · exact hr.com x h1
    · obtain ⟨j, c, hm, rfl⟩ := sentL_mem h1
      exact toC_cb hc hm _ _, hr.heads, hr.head⟩
theorem endA_end (n : Nat) (hn : sent.length = n) (base : Nat) : endA (firstI has) base 0 sent = endAt has base n := by
  subst hn
  unfold endA endAt
  rw [Nat.add_zero]
theorem firstI_eq {K : Int → Option (Repo × Bool)} : (bif decide ((0 : Int) < (has.length : Int)) then ((gi has 0).bind fun u => K u) else K (-1)) = K (firstI has) := by
  unfold firstI
  cases hd : decide ((0 : Int) < (has.length : Int)) with
  | false => rfl
  | true =>
    have h0 : 0 < has.length := by simpa using hd
    have := gi_getI h0
    rw [cond_true, cond_true, show (0 : Int) = ((0 : Nat) : Int) from rfl, this]
    rfl
theorem iSendTake_eq (hr : RpB r) (hh : has.length ≤ 1048576) (hs : r.Commits.length + sent.length ≤ 1048576) (hc : ∀ c ∈ sent, CB c) (hf : ∀ c ∈ sent, ∀ p ∈ c.Parents, fit64 p) {n : Str} (hn : n.length ≤ 1048576) : impl_SendTake r has sent n = some (takeB r has sent n) := by
  unfold impl_SendTake takeB
  rw [RepoOk_eq hr, Option.bind_some]
  cases hok : repoB r with
  | false => rfl
  | true =>
    obtain ⟨s1, s2⟩ := repo_small hok
    have hrb := take_rb (has := has) hr hs hc
    have hhd := hrb.headR (show r.Heads.length ≤ 100000 by omega) hn (endAt has r.Commits.length sent.length)
    have hw : w64 ((sent.length : Int) + (has.length : Int)) = (sent.length : Int) + has.length := w64_id (by omega) (by omega)
    simp only [Bool.not_true, cond_false, cond_true, rOwn_eq hr, Option.bind_some, jn, fuel0, hw]
    by_cases h16 : (16 : Int) < (has.length : Int)
    · have ha : anyB r has = false := by unfold anyB; rw [decide_eq_false (show ¬ (has.length : Int) ≤ 16 by omega), Bool.and_false]
      rw [decide_eq_true h16, ha]
      simp
    rw [decide_eq_false h16, cond_false, are_eq hr (show has.length ≤ 100000 by omega), hok, Option.bind_some, Bool.true_and]
    cases hall : has.all (upB r.Commits.length) with
    | false =>
      have ha : anyB r has = false := by unfold anyB; rw [hall, Bool.false_and]
      rw [ha]
      simp
    | true =>
      have ha : anyB r has = true := by unfold anyB; rw [hall, decide_eq_true (show (has.length : Int) ≤ 16 by omega)]; rfl
      rw [Bool.not_true, cond_false, ha, Bool.true_and]
      cases hz : ((sent.length : Int) + (has.length : Int) == 0) with
      | true =>
        have h0 : (sent.length : Int) + has.length = 0 := by simpa using hz
        have hs0 : sent = [] := List.eq_nil_of_length_eq_zero (by omega)
        have hh0 : has = [] := List.eq_nil_of_length_eq_zero (by omega)
        have hbad : repoB (takeR r has sent n) = false := by
          cases hb : repoB (takeR r has sent n) with
          | false => rfl
          | true =>
            exfalso
            have hm : (⟨n, endAt has r.Commits.length sent.length⟩ : Head) ∈ (takeR r has sent n).Heads := putH_self n _ r.Heads
            have := (head_at hb hm).1
            rw [hs0, hh0] at this
            exact absurd this (by show ¬ (0 : Int) ≤ -1; decide)
        rw [hbad, Bool.and_false]
        rfl
      | false =>
        have key := ist_l1 (hd := r.Heads) hr hh hs hc hf (K := fun _ y80 _ _ _ y93 y96 =>
            (impl_Repo_point (Repo.mk y93 y96) n y80).bind fun z610 => (impl_Repo_tried r (Repo.mk z610.Commits z610.Heads)).bind fun z622 => some (Repo.mk z622.1.Commits z622.1.Heads, z622.2)) (F := fun a out => (impl_Repo_point (Repo.mk out r.Heads) n a).bind fun z610 => (impl_Repo_tried r (Repo.mk z610.Commits z610.Heads)).bind fun z622 => some (Repo.mk z622.1.Commits z622.1.Heads, z622.2)) (fun _ _ _ _ _ _ => rfl) sent.length 0 (sent.length + 1) (firstI has) r.Commits [] [] (by omega) (by omega) (by omega)
        rw [cond_false, firstI_eq]
        refine key.trans ?_
        rw [List.drop_zero, endA_end _ rfl]
        cases okS has 0 sent with
        | false => rfl
        | true =>
          rw [cond_true, Bool.true_and, point_any hrb (show List.Pairwise _ r.Heads from heads_asc hok), Option.bind_some, show ∀ x : Repo, (⟨x.Commits, x.Heads⟩ : Repo) = x from fun _ => rfl, tried_eq hr hhd, Option.bind_some]
          unfold takeR
          cases repoB (headR ⟨r.Commits ++ sentL has r.Commits.length 0 sent, r.Heads⟩ n (endAt has r.Commits.length sent.length)) <;> rfl
end
end Go.Vm
namespace Go.Vm
open Go Go.Sx
set_option linter.unusedSimpArgs false
set_option linter.unusedVariables false
def placeB (l : List Int) (n : Int) : Int := bif hasB l n then plI l n else -1
theorem place_drop {l : List Int} {n : Int} {i : Nat} (hi : i < l.length) : (bif hasB (l.drop i) n then ((i + (l.drop i).idxOf n : Nat) : Int) else -1) = bif l[i] == n then (i : Int) else (bif hasB (l.drop (i + 1)) n then ((i + 1 + (l.drop (i + 1)).idxOf n : Nat) : Int) else -1) := by
  rw [List.drop_eq_getElem_cons hi, List.idxOf_cons]
  unfold hasB
  rw [List.any_cons]
  cases l[i] == n with
  | true => simp
  | false =>
    simp only [Bool.false_or, cond_false]
    congr 1
    omega
theorem ikeep_l2 {num : List Int} {f : Int → Int} {c : Commit} (hp : ∀ p ∈ c.Parents, gi num p = some (f p)) (hl : c.Parents.length ≤ 1000) {w : Str} {t : List File} {K : Int → List Int → Str → List File → Option Repo} :
    impl_KeepOnly_l2 num c K (c.Parents.length + 1) 0 [] w t = K (c.Parents.length : Int) (c.Parents.map f) w t := by
  have e := loop_filter (xs := c.Parents) (p := fun _ => true) (g := f) (Z := fun acc => K (c.Parents.length : Int) acc w t) (f := fun m acc i => impl_KeepOnly_l2 num c K m i acc w t) (fun m i x acc hx ha => by
    have hix := ix_of hx
    simp only [impl_KeepOnly_l2, lt_of hx, gi_of hx, cond_true, Option.bind_some, hp x (List.mem_of_getElem? hx), ap1 (show acc.length ≤ 1048576 by omega), w64_ix hix (show c.Parents.length ≤ maxi by unfold maxi; omega)]) (fun m acc => by simp only [impl_KeepOnly_l2, end_of, cond_false]) (m := c.Parents.length + 1) (by omega)
  rw [List.filter_eq_self.2 (fun _ _ => rfl)] at e
  exact e
theorem gi_getN {d : List Int} {p : Int} (h0 : 0 ≤ p) (h : p.toNat < d.length) : gi d p = some (d.getD p.toNat 0) := by
  have := gi_getI (l := d) h
  rwa [show ((p.toNat : Nat) : Int) = p by omega] at this
def NumT (r : Repo) (i : Nat) (num : List Int) : Prop := num.length = r.Commits.length ∧ ∀ j (hj : j < (liveL r).length), j < i → num.getD ((liveL r)[j]).toNat 0 = (j : Int)
theorem numT_set {r : Repo} (hr : repoB r = true) {i : Nat} (hi : i < (liveL r).length) {num : List Int} (h : NumT r i num) : NumT r (i + 1) (num.set ((liveL r)[i]).toNat (i : Int)) := by
  have hri := live_range hr (List.getElem_mem hi)
  refine ⟨by rw [List.length_set]; exact h.1, fun j hj hji => ?_⟩
  have hrj := live_range hr (List.getElem_mem hj)
  rw [List.getD_eq_getElem?_getD]
  rcases Nat.lt_or_ge j i with q | q
  · have hlt := List.pairwise_iff_getElem.1 (liveL_asc r) j i hj hi q
    rw [List.getElem?_set_ne (by omega), ← List.getD_eq_getElem?_getD]
    exact h.2 j hj q
  · obtain rfl : j = i := by omega
    rw [List.getElem?_set_self (by rw [h.1]; omega)]
    rfl
theorem ikeep_l1 {r : Repo} (h : RpB r) (hr : repoB r = true) {K : Int → List Commit → List Head → List Int → Option Repo} : ∀ (k i m : Nat) (num : List Int), i + k = (liveL r).length → k < m → NumT r i num →
    ∃ num', NumT r (liveL r).length num' ∧ impl_KeepOnly_l1 r (liveL r) K m (i : Int) (((liveL r).take i).map fun i => renC (liveL r) (r.Commits.getD i.toNat noCommit)) [] num = K ((liveL r).length : Int) ((liveL r).map fun i => renC (liveL r) (r.Commits.getD i.toNat noCommit)) [] num'
  | k, i, 0, num, _, hm, _ => by omega
  | 0, i, m + 1, num, hi, _, hN => by
    obtain rfl : i = (liveL r).length := by omega
    refine ⟨num, hN, ?_⟩
    simp only [impl_KeepOnly_l1, end_of, cond_false, List.take_length]
  | k + 1, i, m + 1, num, hi, hm, hN => by
    have hs := repo_small hr
    have hle := liveL_len r
    have hlt : i < (liveL r).length := by omega
    have hx : (liveL r)[i]? = some (liveL r)[i] := List.getElem?_eq_getElem hlt
    have hxm := List.getElem_mem hlt
    have hrg := live_range hr hxm
    have hN1 := numT_set hr hlt hN
    have hg : r.Commits[(liveL r)[i].toNat]? = some (r.Commits[(liveL r)[i].toNat]'(by omega)) := List.getElem?_eq_getElem _
    have hc : CB (r.Commits.getD (liveL r)[i].toNat noCommit) := by rw [getC_of hg]; exact h.cat hg
    have hps := pars_small hr (i := (liveL r)[i].toNat) (by omega)
    unfold parsAt at hps
    have e1 : siM num (liveL r)[i] (i : Int) = some (num.set ((liveL r)[i]).toNat (i : Int)) := by
      have := siM_of (xs := num) (i := (liveL r)[i].toNat) (by rw [hN.1]; omega) (i : Int)
      rwa [show (((liveL r)[i].toNat : Nat) : Int) = (liveL r)[i] by omega] at this
    have el : (((liveL r).take i).map fun i => renC (liveL r) (r.Commits.getD i.toNat noCommit)).length = i := by rw [List.length_map, List.length_take]; omega
    have hpar : ∀ p ∈ (r.Commits.getD (liveL r)[i].toNat noCommit).Parents, gi (num.set ((liveL r)[i]).toNat (i : Int)) p = some (plI (liveL r) p) := fun p hp => by
      have hpl := live_par hr hxm (p := p) hp
      have hpr := live_range hr hpl
      have hlt2 := plI_lt (liveL_asc r) hpl hxm (by have := hps.2 p hp; omega)
      rw [plI_at (liveL_asc r) hlt] at hlt2
      obtain ⟨q0, q1, q2, q3⟩ := plI_mem hpl
      rw [gi_getN hpr.1 (by rw [hN1.1]; omega)]
      have := hN1.2 _ q2 (by omega)
      rw [q3] at this
      rw [this]
      rfl
    have et : impl_Repo_tree r (liveL r)[i] = some (r.Commits.getD (liveL r)[i].toNat noCommit).Tree := by
      unfold impl_Repo_tree
      rw [decide_eq_false (by omega), cond_false, com_atI hrg.1 hrg.2, Option.bind_some]
    simp only [impl_KeepOnly_l1, jn, lt_of hx, gi_of hx, cond_true, Option.bind_some, gi_getN hrg.1 (show (liveL r)[i].toNat < num.length by rw [hN.1]; omega), el, e1, com_atI hrg.1 hrg.2, et, copyTree_eq hc.tree, fuel0]
    rw [ikeep_l2 hpar (by omega), ap1 (by rw [el]; omega), Option.bind_some, w64_ix hlt (show (liveL r).length ≤ maxi by unfold maxi; omega)]
    obtain ⟨num', n1, n2⟩ := ikeep_l1 (K := K) h hr k (i + 1) m _ (by omega) (by omega) hN1
    refine ⟨num', n1, ?_⟩
    rw [← n2, List.take_succ_eq_append_getElem hlt, List.map_append]
    rfl
theorem iKeepOnly_eq {r : Repo} (h : RpB r) : impl_KeepOnly r = some (bif repoB r then keepR r else zeroR) := by
  unfold impl_KeepOnly
  rw [RepoOk_eq h, Option.bind_some]
  cases hr : repoB r with
  | false => rfl
  | true =>
    have hs := repo_small hr
    have hle := liveL_len r
    rw [Bool.not_true, cond_false, cond_true, mkM_of (by simp [lim]; omega), Option.bind_some, iLive_eq hr, Option.bind_some, listOf_eq (by rw [liveM_len]; omega), Option.bind_some]
    simp only [jn, fuel0]
    show impl_KeepOnly_l1 r (liveL r) _ ((liveL r).length + 1) 0 [] [] _ = _
    obtain ⟨num, n1, n2⟩ := ikeep_l1 h hr (K := fun (_ : Int) (y54 : List Vm.Commit) (y57 : List Vm.Head) (y61 : List Int) => impl_KeepOnly_l3 r y61 (fun _ y479 y482 => some (Vm.Repo.mk y479 y482)) (r.Heads.length + 1) 0 y54 y57) (liveL r).length 0 ((liveL r).length + 1) (List.replicate r.Commits.length 0) (by omega) (by omega) ⟨by simp, fun j _ hj => by omega⟩
    refine n2.trans ?_
    show impl_KeepOnly_l3 r num _ (r.Heads.length + 1) 0 (keepR r).Commits [] = _
    rw [loop_filter (xs := r.Heads) (p := fun _ => true) (g := renH (liveL r)) (Z := fun acc => some (Repo.mk (keepR r).Commits acc)) (f := fun m acc i => impl_KeepOnly_l3 r num _ m i (keepR r).Commits acc) (fun m i x acc hx ha => by
      have hix := ix_of hx
      have hl := live_head hr (List.mem_of_getElem? hx)
      have hrg := live_range hr hl
      obtain ⟨q0, q1, q2, q3⟩ := plI_mem hl
      have e := n1.2 _ q2 q2
      rw [q3] at e
      have e2 : gi num x.At = some (plI (liveL r) x.At) := by
        rw [gi_getN hrg.1 (by rw [n1.1]; omega), e]
        rfl
      simp only [impl_KeepOnly_l3, lt_of hx, gi_of hx, cond_true, Option.bind_some, e2, ap1 (show acc.length ≤ 1048576 by omega), w64_ix hix (show r.Heads.length ≤ maxi by unfold maxi; omega)]
      rfl) (fun m acc => by simp only [impl_KeepOnly_l3, end_of, cond_false]) (by omega)]
    rw [List.filter_eq_self.2 (fun _ _ => rfl)]
    rfl
theorem keepR_rb {r : Repo} (h : RpB r) (hr : repoB r = true) : RpB (keepR r) := by
  have hs := repo_small hr
  have hle := liveL_len r
  refine ⟨by rw [keepR_len]; omega, fun c hc => ?_, by show (r.Heads.map _).length ≤ _; rw [List.length_map]; omega, fun x hx => ?_⟩
  · obtain ⟨i, hi, rfl⟩ := List.mem_map.1 hc
    have hrg := live_range hr hi
    have hg : r.Commits[i.toNat]? = some (r.Commits[i.toNat]'(by omega)) := List.getElem?_eq_getElem _
    have hc : CB (r.Commits.getD i.toNat noCommit) := by rw [getC_of hg]; exact h.cat hg
    exact ⟨by simp only [renC, List.length_map]; exact hc.par, hc.who, hc.tree⟩
  · obtain ⟨y, hy, rfl⟩ := List.mem_map.1 hx
    exact h.head y hy
end Go.Vm
namespace Go.Vm
open Go Go.Sx
set_option linter.unusedSimpArgs false
set_option linter.unusedVariables false
theorem anyB_up {r : Repo} {good : List Int} (h : anyB r good = true) : (∀ g ∈ good, upB r.Commits.length g = true) ∧ good.length ≤ 16 := by
  unfold anyB at h
  simp only [Bool.and_eq_true, List.all_eq_true, decide_eq_true_eq] at h
  exact ⟨h.1, by omega⟩
section
variable {r : l30Rd} {p : Int}
end
end Go.Vm
namespace Go.Vm
open Go Go.Sx
set_option linter.unusedSimpArgs false
set_option linter.unusedVariables false
set_option linter.unusedSectionVars false
def sendP (has list : List Int) (p : Int) : Int := bif hasB list p then plI list p else -1 - plI has p
def sendOk (has list : List Int) (p : Int) : Bool := hasB list p || hasB has p
def sendC (has list : List Int) (c : Commit) : Commit := ⟨c.Parents.map (sendP has list), c.Who, c.Tree⟩
def sendAll (r : Repo) (has list : List Int) (x : Int) : Bool := (parsAt r x.toNat).all (sendOk has list)
def sendL (r : Repo) (has list : List Int) : List Commit := list.map fun i => sendC has list (r.Commits.getD i.toNat noCommit)
def suspB (r : Repo) (has : List Int) (a : Int) : Bool := repoB r && (anyB r has && upB r.Commits.length a)
def sendB (r : Repo) (has : List Int) (a : Int) : List Commit × Bool :=
  bif suspB r has a then (bif (leftL r has a).all (sendAll r has (leftL r has a)) then (sendL r has (leftL r has a), true) else ([], false)) else ([], false)
theorem placeB_lt {l : List Int} {n : Int} : decide (placeB l n < 0) = !hasB l n := by
  unfold placeB
  cases h : hasB l n with
  | true =>
    have := (plI_mem (hasB_iff.1 h)).1
    rw [cond_true, decide_eq_false (by omega)]
    rfl
  | false => rfl
theorem placeB_rng {l : List Int} {n : Int} : -1 ≤ placeB l n ∧ placeB l n < (l.length : Int) := by
  unfold placeB
  cases h : hasB l n with
  | true =>
    have := plI_mem (hasB_iff.1 h)
    rw [cond_true]
    omega
  | false => rw [cond_false]; omega
theorem indexI_l1 {l : List Int} (hl : l.length ≤ 1000000) {n : Int} : ∀ (k i m : Nat), i + k = l.length → k < m →
    slices_Index_int_int_l1 l n (fun _ _ => some (-1)) m 0 (i : Int) = some (bif hasB (l.drop i) n then ((i + (l.drop i).idxOf n : Nat) : Int) else -1)
  | k, i, 0, _, hm => by omega
  | 0, i, m + 1, hi, _ => by
    obtain rfl : i = l.length := by omega
    simp only [slices_Index_int_int_l1, end_of, cond_false, List.drop_length]
    rfl
  | k + 1, i, m + 1, hi, hm => by
    have hlt : i < l.length := by omega
    have hx : l[i]? = some l[i] := List.getElem?_eq_getElem hlt
    simp only [slices_Index_int_int_l1, lt_of hx, gi_of hx, cond_true, Option.bind_some, w64_ix hlt (show l.length ≤ maxi by unfold maxi; omega)]
    rw [place_drop hlt, indexI_l1 hl k (i + 1) m (by omega) (by omega), show (n == l[i]) = (l[i] == n) from bool_ext (by simp only [beq_iff_eq]; exact ⟨Eq.symm, Eq.symm⟩)]
    cases l[i] == n <;> rfl
theorem indexI_eq {l : List Int} (hl : l.length ≤ 1000000) (n : Int) : slices_Index_int_int l n = some (placeB l n) := by
  unfold slices_Index_int_int
  simp only [jn, fuel0]
  have e := indexI_l1 hl (n := n) l.length 0 (l.length + 1) (by omega) (by omega)
  refine e.trans ?_
  unfold placeB plI
  simp
section
variable {has list : List Int} (hh : has.length ≤ 1000000) (hl : list.length ≤ 1000000)
include hh hl
theorem isend_l2 {c : Commit} (hP : c.Parents.length ≤ 1000000) {K : List Commit → Bool → Int → List Int → Str → List File → Option (List Commit × Bool)} {y : List Commit} {b : Bool} {w : Str} {t : List File} : ∀ (j k m : Nat), k + j = c.Parents.length → j < m →
    impl_SendOf_l2 has list c K m y b (k : Int) ((c.Parents.take k).map (sendP has list)) w t = bif (c.Parents.drop k).all (sendOk has list) then K y b (c.Parents.length : Int) (c.Parents.map (sendP has list)) w t else some ([], false)
  | j, k, 0, _, hm => by omega
  | 0, k, m + 1, hk, _ => by
    obtain rfl : k = c.Parents.length := by omega
    rw [List.take_length, List.drop_length]
    simp only [impl_SendOf_l2, end_of, cond_false, List.all_nil, cond_true]
  | j + 1, k, m + 1, hk, hm => by
    have hlt : k < c.Parents.length := by omega
    have hx : c.Parents[k]? = some c.Parents[k] := List.getElem?_eq_getElem hlt
    have ih := isend_l2 hP (K := K) (y := y) (b := b) (w := w) (t := t) j (k + 1) m (by omega) (by omega)
    rw [List.take_succ_eq_append_getElem hlt, List.map_append] at ih
    have el : ((c.Parents.take k).map (sendP has list)).length ≤ 1048576 := by rw [List.length_map, List.length_take]; omega
    simp only [impl_SendOf_l2, jn, lt_of hx, gi_of hx, cond_true, Option.bind_some, indexI_eq hl, indexI_eq hh, w64_ix hlt (show c.Parents.length ≤ maxi by unfold maxi; omega), ap1 el]
    rw [List.drop_eq_getElem_cons hlt, List.all_cons]
    have dl : ∀ l : List Int, decide ((0 : Int) ≤ placeB l c.Parents[k]) = hasB l c.Parents[k] := fun l => by
      have := placeB_lt (l := l) (n := c.Parents[k])
      cases hb : hasB l c.Parents[k] with
      | true => rw [hb] at this; simp only [Bool.not_true, decide_eq_false_iff_not] at this; exact decide_eq_true (by omega)
      | false => rw [hb] at this; simp only [Bool.not_false, decide_eq_true_eq] at this; exact decide_eq_false (by omega)
    rw [dl list, dl has]
    cases h1 : hasB list c.Parents[k] with
    | true =>
      have e1 : placeB list c.Parents[k] = sendP has list c.Parents[k] := by unfold placeB sendP; rw [h1]; rfl
      have e2 : sendOk has list c.Parents[k] = true := by unfold sendOk; rw [h1]; rfl
      simp only [cond_true, e1, e2, Bool.true_and]
      exact ih
    | false =>
      cases h2 : hasB has c.Parents[k] with
      | false =>
        have e2 : sendOk has list c.Parents[k] = false := by unfold sendOk; rw [h1, h2]; rfl
        simp only [e2, Bool.false_and, cond_false]
      | true =>
        have e2 : sendOk has list c.Parents[k] = true := by unfold sendOk; rw [h1, h2]; rfl
        have e1 : -1 - placeB has c.Parents[k] = sendP has list c.Parents[k] := by unfold placeB sendP; rw [h1, h2]; rfl
        have hr := placeB_rng (l := has) (n := c.Parents[k])
        simp only [cond_true, cond_false, e2, Bool.true_and]
        rw [w64_id (by omega) (by omega), e1]
        exact ih
variable {r : Repo} (h : RpB r) (hr : repoB r = true) (hg : ∀ x ∈ list, 0 ≤ x ∧ x ≤ (r.Commits.length : Int) - 1)
include h hr hg
theorem com_cb {x : Int} (hx : x ∈ list) : CB (r.Commits.getD x.toNat noCommit) ∧ (r.Commits.getD x.toNat noCommit).Parents.length ≤ 2 := by
  have hrg := hg x hx
  have hgx : r.Commits[x.toNat]? = some (r.Commits[x.toNat]'(by omega)) := List.getElem?_eq_getElem _
  have hps := pars_small hr (i := x.toNat) (by omega)
  unfold parsAt at hps
  exact ⟨by rw [getC_of hgx]; exact h.cat hgx, hps.1⟩
theorem isend_l1 {K : List Commit → Bool → List Commit → Int → Option (List Commit × Bool)} : ∀ (j k m : Nat), k + j = list.length → j < m →
    impl_SendOf_l1 r has list K m [] false ((list.take k).map fun i => sendC has list (r.Commits.getD i.toNat noCommit)) (k : Int) = bif (list.drop k).all (sendAll r has list) then K [] false (sendL r has list) (list.length : Int) else some ([], false)
  | j, k, 0, _, hm => by omega
  | 0, k, m + 1, hk, _ => by
    obtain rfl : k = list.length := by omega
    rw [List.take_length, List.drop_length]
    simp only [impl_SendOf_l1, end_of, cond_false, List.all_nil, cond_true]
    rfl
  | j + 1, k, m + 1, hk, hm => by
    have hlt : k < list.length := by omega
    have hx : list[k]? = some list[k] := List.getElem?_eq_getElem hlt
    have hxm := List.getElem_mem hlt
    have hrg := hg _ hxm
    obtain ⟨hc, hp2⟩ := com_cb hh hl h hr hg hxm
    have ih := isend_l1 (K := K) j (k + 1) m (by omega) (by omega)
    rw [List.take_succ_eq_append_getElem hlt, List.map_append] at ih
    have el : ((list.take k).map fun i => sendC has list (r.Commits.getD i.toNat noCommit)).length ≤ 1048576 := by rw [List.length_map, List.length_take]; omega
    have et : impl_Repo_tree r list[k] = some (r.Commits.getD list[k].toNat noCommit).Tree := by
      unfold impl_Repo_tree
      rw [decide_eq_false (by omega), cond_false, com_atI hrg.1 hrg.2, Option.bind_some]
    simp only [impl_SendOf_l1, jn, lt_of hx, gi_of hx, cond_true, Option.bind_some, com_atI hrg.1 hrg.2, et, copyTree_eq hc.tree, fuel0]
    have e := isend_l2 hh hl (c := r.Commits.getD list[k].toNat noCommit) (by omega) (y := []) (b := false) (w := (r.Commits.getD list[k].toNat noCommit).Who) (t := (r.Commits.getD list[k].toNat noCommit).Tree) (K := fun (y217 : List Vm.Commit) (y220 : Bool) (y224 : Int) (y225 : List Int) (y228 : Str) (y229 : List Vm.File) =>
        (apM ((list.take k).map fun i => sendC has list (r.Commits.getD i.toNat noCommit)) [Vm.Commit.mk y225 y228 y229]).bind fun q357 =>
        impl_SendOf_l1 r has list K m y217 y220 q357 (w64 ((k : Int) + 1))) (r.Commits.getD list[k].toNat noCommit).Parents.length 0 ((r.Commits.getD list[k].toNat noCommit).Parents.length + 1) (by omega) (by omega)
    refine e.trans ?_
    rw [List.drop_eq_getElem_cons hlt, List.all_cons, List.drop_zero]
    have ea : (r.Commits.getD list[k].toNat noCommit).Parents.all (sendOk has list) = sendAll r has list list[k] := rfl
    rw [ea]
    cases sendAll r has list list[k] with
    | false => rfl
    | true =>
      rw [cond_true, Bool.true_and, ap1 el, Option.bind_some, w64_ix hlt (show list.length ≤ maxi by unfold maxi; omega)]
      exact ih
end
theorem susp_eq {r : Repo} (h : RpB r) {has : List Int} (hl : has.length ≤ 1000) (a : Int) : impl_Repo_areSuspect r has a = some (suspB r has a) := by
  unfold impl_Repo_areSuspect suspB anyB
  simp only [jn, are_eq h (show has.length ≤ 100000 by omega), exists_eq h, Option.bind_some]
  cases repoB r with
  | false => rfl
  | true =>
    cases has.all (upB r.Commits.length) with
    | false => rfl
    | true =>
      cases decide ((has.length : Int) ≤ 16) <;> rfl
theorem susp_facts {r : Repo} {has : List Int} {a : Int} (h : suspB r has a = true) : repoB r = true ∧ upB r.Commits.length a = true ∧ anyB r has = true ∧ (∀ g ∈ has, upB r.Commits.length g = true) ∧ has.length ≤ 16 := by
  unfold suspB at h
  simp only [Bool.and_eq_true] at h
  obtain ⟨h1, h2, h3⟩ := h
  exact ⟨h1, h3, h2, (anyB_up h2).1, (anyB_up h2).2⟩
theorem leftL_rng {r : Repo} {has : List Int} {a x : Int} (hx : x ∈ leftL r has a) : 0 ≤ x ∧ x ≤ (r.Commits.length : Int) - 1 := allA_mem (leftL_mem.1 hx).1
theorem iSendOf_eq {r : Repo} (h : RpB r) {has : List Int} (hl : has.length ≤ 1000) (a : Int) : impl_SendOf r has a = some (sendB r has a) := by
  unfold impl_SendOf sendB
  rw [susp_eq h hl, Option.bind_some]
  cases hs : suspB r has a with
  | false => rfl
  | true =>
    obtain ⟨h1, h2, h3, h4, h5⟩ := susp_facts hs
    have hle := leftL_len r has a
    have hsm := (repo_small h1).1
    rw [Bool.not_true, cond_false, cond_true, iSince_eq h1 h2 (by omega) h4, Option.bind_some]
    simp only [jn, fuel0]
    have e := isend_l1 (has := has) (list := leftL r has a) (by omega) (by omega) h h1 (fun x hx => leftL_rng hx) (K := fun _ _ y26 _ => some (y26, true)) (leftL r has a).length 0 ((leftL r has a).length + 1) (by omega) (by omega)
    refine e.trans ?_
    rw [List.drop_zero]
    cases (leftL r has a).all (sendAll r has (leftL r has a)) <;> rfl
theorem sendB_some {r : Repo} {has : List Int} {a : Int} (h : (sendB r has a).2 = true) : suspB r has a = true ∧ (leftL r has a).all (sendAll r has (leftL r has a)) = true ∧ (sendB r has a).1 = sendL r has (leftL r has a) := by
  unfold sendB at h ⊢
  cases hs : suspB r has a with
  | false => rw [hs] at h; cases h
  | true =>
    rw [hs, cond_true] at h
    cases ha : (leftL r has a).all (sendAll r has (leftL r has a)) with
    | false => rw [ha] at h; cases h
    | true => exact ⟨rfl, rfl, rfl⟩
theorem sendB_none {r : Repo} {has : List Int} {a : Int} (h : (sendB r has a).2 = false) : (sendB r has a).1 = [] := by
  unfold sendB at h ⊢
  cases hs : suspB r has a with
  | false => rfl
  | true =>
    rw [hs, cond_true] at h
    cases ha : (leftL r has a).all (sendAll r has (leftL r has a)) with
    | false => rfl
    | true => rw [ha] at h; cases h
theorem sendC_cb {c : Commit} (h : CB c) (has list : List Int) : CB (sendC has list c) := ⟨by simp only [sendC, List.length_map]; exact h.par, h.who, h.tree⟩
theorem sendB_cb {r : Repo} (h : RpB r) (has : List Int) (a : Int) : ∀ c ∈ (sendB r has a).1, CB c := fun c hc => by
  cases h2 : (sendB r has a).2 with
  | false => rw [sendB_none h2] at hc; simp at hc
  | true =>
    obtain ⟨h3, _, h4⟩ := sendB_some h2
    rw [h4] at hc
    obtain ⟨x, hx, rfl⟩ := List.mem_map.1 hc
    have hrg := leftL_rng hx
    have hgx : r.Commits[x.toNat]? = some (r.Commits[x.toNat]'(by omega)) := List.getElem?_eq_getElem _
    exact sendC_cb (by rw [getC_of hgx]; exact h.cat hgx) _ _
theorem sendB_len {r : Repo} (has : List Int) (a : Int) : (sendB r has a).1.length ≤ r.Commits.length := by
  cases h2 : (sendB r has a).2 with
  | false => rw [sendB_none h2]; simp
  | true =>
    obtain ⟨h3, _, h4⟩ := sendB_some h2
    rw [h4]
    unfold sendL
    rw [List.length_map]
    exact leftL_len r has a
end Go.Vm
namespace Go.Vm
open Go Go.Sx
set_option linter.unusedSimpArgs false
set_option linter.unusedVariables false
theorem nodup_len : ∀ {xs ys : List Int}, xs.Nodup → (∀ x ∈ xs, x ∈ ys) → xs.length ≤ ys.length
  | [], ys, _, _ => Nat.zero_le _
  | x :: xs, ys, hn, hs => by
    have hx : x ∈ ys := hs x (by simp)
    obtain ⟨hx', hn'⟩ := List.nodup_cons.1 hn
    have := nodup_len (xs := xs) (ys := ys.erase x) hn' fun y hy => (List.mem_erase_of_ne (fun e => hx' (by rw [← e]; exact hy))).2 (hs y (List.mem_cons_of_mem _ hy))
    rw [List.length_erase_of_mem hx] at this
    have h0 : 0 < ys.length := List.length_pos_of_mem hx
    simp only [List.length_cons]
    omega
theorem nd_pl {l : List Int} (h : l.Nodup) {i : Nat} (hi : i < l.length) : plI l l[i] = (i : Int) := by
  unfold plI
  rw [h.idxOf_getElem i hi]
theorem nd_inj {l : List Int} {a b : Int} (ha : a ∈ l) (hb : b ∈ l) (e : plI l a = plI l b) : a = b := by
  obtain ⟨_, _, h1, e1⟩ := plI_mem ha
  obtain ⟨_, _, h2, e2⟩ := plI_mem hb
  have q1 : l[(plI l a).toNat]? = some a := by rw [List.getElem?_eq_getElem h1, e1]
  have q2 : l[(plI l b).toNat]? = some b := by rw [List.getElem?_eq_getElem h2, e2]
  rw [e, q2] at q1
  exact (Option.some.inj q1).symm
structure Top (r : Repo) (l : List Int) : Prop where
  nd : l.Nodup
  rg : ∀ x ∈ l, 0 ≤ x ∧ x ≤ (r.Commits.length : Int) - 1
  up : ∀ x ∈ l, ∀ p ∈ parsAt r x.toNat, p ∈ l ∧ plI l p < plI l x
def renL (r : Repo) (l : List Int) : List Commit := l.map fun i => renC l (r.Commits.getD i.toNat noCommit)
theorem renL_at {x r : Repo} {l : List Int} (hx : x.Commits = renL r l) {i : Nat} (hi : i < l.length) : x.Commits.getD i noCommit = renC l (r.Commits.getD l[i].toNat noCommit) := by
  have : x.Commits[i]? = some (renC l (r.Commits.getD l[i].toNat noCommit)) := by
    rw [hx]
    unfold renL
    rw [List.getElem?_map, List.getElem?_eq_getElem hi]
    rfl
  exact getC_of this
theorem ren_pars {x r : Repo} {l : List Int} (hx : x.Commits = renL r l) {i : Nat} (hi : i < l.length) : parsAt x i = (parsAt r l[i].toNat).map (plI l) := by
  unfold parsAt
  rw [renL_at hx hi]
  rfl
theorem ren_coms {x r : Repo} {l : List Int} (hr : repoB r = true) (ht : Top r l) (hx : x.Commits = renL r l) : comsB x.Commits = true := by
  have hlen : x.Commits.length = l.length := by rw [hx]; simp [renL]
  refine allN_iff.2 fun i _ hi => ?_
  rw [hlen, Nat.zero_add] at hi
  have hm := List.getElem_mem hi
  have hg := ht.rg _ hm
  have hc := repo_com hr (i := l[i].toNat) (by omega)
  rw [renL_at hx hi]
  unfold comB at hc ⊢
  simp only [Bool.and_eq_true, List.all_eq_true] at hc ⊢
  obtain ⟨c1, c2, c3, c4⟩ := hc
  have hsub : ∀ p ∈ (r.Commits.getD l[i].toNat noCommit).Parents, p ∈ l := fun p hp => (ht.up _ hm p hp).1
  refine ⟨fun q hq => ?_, by simpa [renC] using c2, ?_, c4⟩
  · obtain ⟨p, hp, rfl⟩ := List.mem_map.1 hq
    have h1 := plI_mem (hsub p hp)
    have h2 := (ht.up _ hm p hp).2
    rw [nd_pl ht.nd hi] at h2
    exact upB_iff.2 (by omega)
  · show twoB ((r.Commits.getD l[i].toNat noCommit).Parents.map (plI l)) = true
    revert c3 hsub
    generalize (r.Commits.getD l[i].toNat noCommit).Parents = ps
    intro c3 hsub
    match ps with
    | [] => rfl
    | [p] => rfl
    | [p, q] =>
      have hne : p ≠ q := by simpa [twoB] using c3
      have : plI l p ≠ plI l q := fun e => hne (nd_inj (hsub p (by simp)) (hsub q (by simp)) e)
      simpa [twoB] using this
    | p :: q :: s :: t => rfl
theorem ren_rc {x r : Repo} {l : List Int} (ht : Top r l) (hx : x.Commits = renL r l) {i : Nat} (hi : i < l.length) {j : Nat} (h : Rc x i j) : ∃ hj : j < l.length, Rc r l[i].toNat l[j].toNat := by
  induction h with
  | refl => exact ⟨hi, Rc.refl _⟩
  | @step b p hb hp ih =>
    obtain ⟨hj, q⟩ := ih
    rw [ren_pars hx hj] at hp
    obtain ⟨y, hy, rfl⟩ := List.mem_map.1 hp
    have hm := List.getElem_mem hj
    obtain ⟨_, _, hlt, e⟩ := plI_mem (ht.up _ hm y hy).1
    refine ⟨hlt, ?_⟩
    rw [e]
    exact Rc.step q hy
theorem top_rc {r : Repo} {l : List Int} (ht : Top r l) {a c : Nat} (ha : (a : Int) ∈ l) (h : Rc r a c) : (c : Int) ∈ l := by
  induction h with
  | refl => exact ha
  | @step b p hb hp ih =>
    have h1 := (ht.up _ ih p (by rw [Int.toNat_natCast]; exact hp)).1
    have h2 := ht.rg p h1
    rwa [show ((p.toNat : Nat) : Int) = p by omega]
theorem ren_back {x r : Repo} {l : List Int} (ht : Top r l) (hx : x.Commits = renL r l) {a c : Nat} (ha : (a : Int) ∈ l) (h : Rc r a c) : Rc x (plI l (a : Int)).toNat (plI l (c : Int)).toNat := by
  induction h with
  | refl => exact Rc.refl _
  | @step b p hb hp ih =>
    have hbl := top_rc ht ha hb
    obtain ⟨_, _, hlt, e⟩ := plI_mem hbl
    have h1 := (ht.up _ hbl p (by rw [Int.toNat_natCast]; exact hp)).1
    have h2 := ht.rg p h1
    refine Rc.step ih (p := plI l ((p.toNat : Nat) : Int)) ?_
    rw [ren_pars hx hlt, e, Int.toNat_natCast]
    refine List.mem_map.2 ⟨p, hp, ?_⟩
    rw [show ((p.toNat : Nat) : Int) = p by omega]
theorem ren_count {x r : Repo} {l : List Int} (hr : repoB r = true) (hk : repoB x = true) (ht : Top r l) (hx : x.Commits = renL r l) {b : Int} (hb : b ∈ l) : (allA x (plI l b)).length = (allA r b).length := by
  have hlen : x.Commits.length = l.length := by rw [hx]; simp [renL]
  have hg := ht.rg _ hb
  obtain ⟨p0, p1, hlt, e⟩ := plI_mem hb
  have hsub : ∀ y ∈ allA r b, y ∈ l ∧ 0 ≤ y ∧ Rc r b.toNat y.toNat := fun y hm => by
    obtain ⟨q0, q1⟩ := (allA_iff hr hg.1 hg.2 y).1 hm
    have := top_rc ht (a := b.toNat) (by rwa [show ((b.toNat : Nat) : Int) = b by omega]) q1
    exact ⟨by rwa [show ((y.toNat : Nat) : Int) = y by omega] at this, q0, q1⟩
  apply Nat.le_antisymm
  · have h1 : ((allA x (plI l b)).map fun j => l.getD j.toNat 0).Nodup := by
      rw [List.Nodup, List.pairwise_map]
      refine (AscI.nodup (allA_asc x (plI l b))).imp_of_mem fun {u v} hu hv hne e2 => hne ?_
      obtain ⟨u0, u1⟩ := allA_mem hu
      obtain ⟨v0, v1⟩ := allA_mem hv
      have hu' : u.toNat < l.length := by omega
      have hv' : v.toNat < l.length := by omega
      rw [List.getD_eq_getElem?_getD, List.getD_eq_getElem?_getD, List.getElem?_eq_getElem hu', List.getElem?_eq_getElem hv'] at e2
      simp only [Option.getD_some] at e2
      have g1 := nd_pl ht.nd hu'
      have g2 := nd_pl ht.nd hv'
      rw [e2, g2] at g1
      omega
    have h2 := nodup_len h1 (ys := allA r b) fun y hy => by
      obtain ⟨j, hj, rfl⟩ := List.mem_map.1 hy
      obtain ⟨j0, j1⟩ := (allA_iff hk p0 (by omega) j).1 hj
      obtain ⟨hjl, q⟩ := ren_rc ht hx hlt j1
      rw [e] at q
      have hg2 := ht.rg _ (List.getElem_mem hjl)
      rw [List.getD_eq_getElem?_getD, List.getElem?_eq_getElem hjl]
      exact (allA_iff hr hg.1 hg.2 _).2 ⟨hg2.1, q⟩
    rwa [List.length_map] at h2
  · have h1 : ((allA r b).map (plI l)).Nodup := by
      rw [List.Nodup, List.pairwise_map]
      refine (AscI.nodup (allA_asc r b)).imp_of_mem fun {u v} hu hv hne e2 => hne (nd_inj (hsub u hu).1 (hsub v hv).1 e2)
    have h2 := nodup_len h1 (ys := allA x (plI l b)) fun y hy => by
      obtain ⟨c, hc, rfl⟩ := List.mem_map.1 hy
      obtain ⟨c1, c2, c3⟩ := hsub c hc
      have := ren_back ht hx (a := b.toNat) (by rwa [show ((b.toNat : Nat) : Int) = b by omega]) c3
      rw [show ((b.toNat : Nat) : Int) = b by omega, show ((c.toNat : Nat) : Int) = c by omega] at this
      exact (allA_iff hk p0 (by omega) _).2 ⟨(plI_mem c1).1, this⟩
    rwa [List.length_map] at h2
theorem pl_left {l m : List Int} {c : Int} (h : c ∈ l) : plI (l ++ m) c = plI l c := by
  unfold plI
  rw [List.idxOf_append, if_pos h]
theorem pl_right {l m : List Int} {c : Int} (h : c ∉ l) : plI (l ++ m) c = (l.length : Int) + plI m c := by
  unfold plI
  rw [List.idxOf_append, if_neg h]
  omega
theorem top_send {r : Repo} (hr : repoB r = true) {a b : Int} (ha : upB r.Commits.length a = true) (hb : upB r.Commits.length b = true) : Top r (allA r a ++ leftL r (allA r a) b) := by
  have ua := upB_iff.1 ha
  have ub := upB_iff.1 hb
  have hdis : ∀ x ∈ allA r a, x ∉ leftL r (allA r a) b := fun x hx hx2 => by
    have hm := allA_mem hx
    exact (leftL_mem.1 hx2).2 x hx (allA_self hr hm.1 hm.2)
  have hcl : ∀ {c : Int}, upB r.Commits.length c = true → ∀ x ∈ allA r c, ∀ p ∈ parsAt r x.toNat, p ∈ allA r c := fun {c} hc x hx p hp => by
    have uc := upB_iff.1 hc
    have hm := allA_mem hx
    have h1 := (allA_iff hr uc.1 uc.2 x).1 hx
    have h2 := ((pars_small hr (i := x.toNat) (by omega)).2 p hp).1
    exact (allA_iff hr uc.1 uc.2 p).2 ⟨h2, Rc.step h1.2 hp⟩
  refine ⟨?_, ?_, ?_⟩
  · refine List.nodup_append.2 ⟨AscI.nodup (allA_asc r a), AscI.nodup (leftL_asc r _ b), fun x hx y hy e => hdis x hx (by rw [e]; exact hy)⟩
  · intro x hx
    rcases List.mem_append.1 hx with h | h
    · exact allA_mem h
    · exact allA_mem (leftL_mem.1 h).1
  · intro x hx p hp
    have hxm : 0 ≤ x ∧ x ≤ (r.Commits.length : Int) - 1 := by
      rcases List.mem_append.1 hx with h | h
      · exact allA_mem h
      · exact allA_mem (leftL_mem.1 h).1
    have hlt := (pars_small hr (i := x.toNat) (by omega)).2 p hp
    by_cases hxa : x ∈ allA r a
    · have h1 := hcl ha x hxa p hp
      refine ⟨List.mem_append_left _ h1, ?_⟩
      rw [pl_left h1, pl_left hxa]
      exact plI_lt (allA_asc r a) h1 hxa (by omega)
    · have hxl : x ∈ leftL r (allA r a) b := (List.mem_append.1 hx).resolve_left hxa
      by_cases hpa : p ∈ allA r a
      · refine ⟨List.mem_append_left _ hpa, ?_⟩
        rw [pl_left hpa, pl_right hxa]
        have := (plI_mem hpa).2.1
        have := (plI_mem hxl).1
        omega
      · have hpl : p ∈ leftL r (allA r a) b := leftL_mem.2 ⟨hcl hb x (leftL_mem.1 hxl).1 p hp, fun g hg hpg => hpa (by
          have hgm := allA_mem hg
          have h1 := (allA_iff hr ua.1 ua.2 g).1 hg
          have h2 := (allA_iff hr hgm.1 hgm.2 p).1 hpg
          exact (allA_iff hr ua.1 ua.2 p).2 ⟨h2.1, h1.2.trans h2.2⟩)⟩
        refine ⟨List.mem_append_right _ hpl, ?_⟩
        rw [pl_right hpa, pl_right hxa]
        have := plI_lt (leftL_asc r _ b) hpl hxl (by omega)
        omega
end Go.Vm
namespace Go.Vm
open Go Go.Sx
set_option linter.unusedSimpArgs false
set_option linter.unusedVariables false
set_option linter.unusedSectionVars false
theorem plI_hi (l : List Int) (n : Int) : 0 ≤ plI l n ∧ plI l n ≤ (l.length : Int) := by
  unfold plI
  have := List.idxOf_le_length (a := n) (l := l)
  omega
theorem sendP_fit {has list : List Int} (hh : has.length ≤ 1000000) (hl : list.length ≤ 1000000) (p : Int) : fit64 (sendP has list p) := by
  unfold sendP fit64
  have h1 := plI_hi has p
  have h2 := plI_hi list p
  cases hasB list p
  · rw [cond_false]; omega
  · rw [cond_true]; omega
structure SentB (sent : List Commit) : Prop where
  len : sent.length ≤ 16
  cb : ∀ c ∈ sent, CB c
  fit : ∀ c ∈ sent, ∀ p ∈ c.Parents, fit64 p
theorem sendB_sent {r : Repo} (h : RpB r) (hc : r.Commits.length ≤ 16) {has : List Int} (hl : has.length ≤ 1000) (a : Int) : SentB (sendB r has a).1 := by
  have hle := sendB_len (r := r) has a
  refine ⟨by omega, sendB_cb h has a, fun c hm p hp => ?_⟩
  cases h2 : (sendB r has a).2 with
  | false => rw [sendB_none h2] at hm; simp at hm
  | true =>
    obtain ⟨_, _, h4⟩ := sendB_some h2
    rw [h4] at hm
    obtain ⟨x, hx, rfl⟩ := List.mem_map.1 hm
    obtain ⟨q, _, rfl⟩ := List.mem_map.1 hp
    have hll := leftL_len r has a
    exact sendP_fit (by omega) (by omega) q
theorem SentB.take {sent : List Commit} (h : SentB sent) (k : Nat) : SentB (sent.take k) :=
  ⟨Nat.le_trans (List.length_take_le' k sent) h.len, fun c hc => h.cb c (List.mem_of_mem_take hc), fun c hc => h.fit c (List.mem_of_mem_take hc)⟩
theorem SentB.set {sent : List Commit} (h : SentB sent) {c : Commit} (hc : CB c) (hf : ∀ p ∈ c.Parents, fit64 p) (k : Nat) : SentB (sent.set k c) :=
  ⟨by rw [List.length_set]; exact h.len, fun d hd => by
    rcases List.mem_or_eq_of_mem_set hd with q | q
    · exact h.cb d q
    · rw [q]; exact hc, fun d hd => by
    rcases List.mem_or_eq_of_mem_set hd with q | q
    · exact h.fit d q
    · rw [q]; exact hf⟩
theorem sentL_at (has : List Int) (base : Nat) : ∀ (cs : List Commit) (i0 i : Nat), (sentL has base i0 cs)[i]? = (cs[i]?).map (toC has base (i0 + i))
  | [], i0, i => by simp [sentL]
  | c :: cs, i0, 0 => by simp [sentL]
  | c :: cs, i0, i + 1 => by
    simp only [sentL, List.getElem?_cons_succ]
    rw [sentL_at has base cs (i0 + 1) i, show i0 + 1 + i = i0 + (i + 1) by omega]
theorem takeR_rb {r : Repo} {has : List Int} {sent : List Commit} (hr : RpB r) (hok : repoB r = true) (hs : SentB sent) {n : Str} (hn : n.length ≤ 1048576) : RpB (takeR r has sent n) := by
  have h1 := repo_small hok
  have hl := hs.len
  exact (take_rb (has := has) hr (by omega) hs.cb).headR (show r.Heads.length ≤ 100000 by omega) hn _
theorem way_l1 {l : List Int} (hl : l.length ≤ 1000) {K : List Int → Int → Option Bool} : ∀ (k i m : Nat), i + k = l.length → k < m → laws_FnSendWay_l1 l K m ((List.range i).map Int.ofNat) (i : Int) = K ((List.range l.length).map Int.ofNat) (l.length : Int)
  | k, i, 0, _, hm => by omega
  | 0, i, m + 1, hi, _ => by
    obtain rfl : i = l.length := by omega
    simp only [laws_FnSendWay_l1, end_of, cond_false]
  | k + 1, i, m + 1, hi, hm => by
    have hlt : i < l.length := by omega
    have ih := way_l1 hl (K := K) k (i + 1) m (by omega) (by omega)
    rw [List.range_succ, List.map_append] at ih
    simp only [laws_FnSendWay_l1]
    rw [decide_eq_true (by omega), cond_true, ap1 (by simp; omega), Option.bind_some, w64_ix hlt (show l.length ≤ maxi by unfold maxi; omega)]
    exact ih
theorem marksD_heads (cs : List Commit) (hs hs' : List Head) : ∀ (i : Nat) (mk : List Bool), marksD ⟨cs, hs⟩ i mk = marksD ⟨cs, hs'⟩ i mk
  | 0, mk => rfl
  | i + 1, mk => by
    unfold marksD
    rw [marksD_heads cs hs hs' i]
    rfl
theorem allA_heads (cs : List Commit) (hs hs' : List Head) (a : Int) : allA ⟨cs, hs⟩ a = allA ⟨cs, hs'⟩ a := by
  unfold allA marksA
  rw [marksD_heads cs hs hs']
section
variable {x : Repo} (hr : repoB x = true) {a b : Int} (ha : upB x.Commits.length a = true) (hb : upB x.Commits.length b = true)
include hr ha
theorem alone_ok : repoB ⟨x.Commits, [⟨[120], a⟩]⟩ = true := by
  have hR := repoB_iff.1 hr
  refine repoB_iff.2 ⟨hR.1, headsB_iff.2 ⟨fun h hh => ?_, by simp, by simp⟩⟩
  simp only [List.mem_cons, List.not_mem_nil, or_false] at hh
  rw [hh]
  exact ⟨show nameB [120] = true by decide, ha⟩
theorem alone_live : liveL ⟨x.Commits, [⟨[120], a⟩]⟩ = allA x a := by
  refine AscI.ext (liveL_asc _) (allA_asc x a) fun y => ?_
  rw [liveL_mem (alone_ok hr ha)]
  constructor
  · rintro ⟨h, hh, hy⟩
    simp only [List.mem_cons, List.not_mem_nil, or_false] at hh
    rw [hh, allA_heads x.Commits _ x.Heads] at hy
    exact hy
  · exact fun hy => ⟨⟨[120], a⟩, List.mem_cons_self, by rw [allA_heads x.Commits _ x.Heads]; exact hy⟩
theorem alone_keep : keepR ⟨x.Commits, [⟨[120], a⟩]⟩ = ⟨renL x (allA x a), [⟨[120], plI (allA x a) a⟩]⟩ := by
  unfold keepR
  rw [alone_live hr ha]
  rfl
include hb
theorem way_all : (leftL x (allA x a) b).all (sendAll x (allA x a) (leftL x (allA x a) b)) = true := by
  have ht := top_send hr ha hb
  rw [List.all_eq_true]
  intro c hc
  unfold sendAll
  rw [List.all_eq_true]
  intro p hp
  have := (ht.up c (List.mem_append_right _ hc) p hp).1
  unfold sendOk
  rw [Bool.or_eq_true, hasB_iff, hasB_iff]
  rcases List.mem_append.1 this with q | q
  · exact .inr q
  · exact .inl q
theorem way_disj {c : Int} (h : c ∈ leftL x (allA x a) b) : c ∉ allA x a := fun hc => by
  have hm := allA_mem hc
  exact (leftL_mem.1 h).2 c hc (allA_self hr hm.1 hm.2)
theorem theirs_at {n k : Nat} (h : k < n) : ((List.range n).map Int.ofNat).getD k 0 = (k : Int) := by
  rw [List.getD_eq_getElem?_getD, List.getElem?_map, List.getElem?_range h]
  rfl
theorem way_coms : renL x (allA x a) ++ sentL ((List.range (allA x a).length).map Int.ofNat) (allA x a).length 0 (sendL x (allA x a) (leftL x (allA x a) b)) = renL x (allA x a ++ leftL x (allA x a) b) := by
  have ht := top_send hr ha hb
  unfold renL
  rw [List.map_append]
  congr 1
  · refine List.map_congr_left fun c hc => ?_
    unfold renC
    congr 1
    refine List.map_congr_left fun p hp => ?_
    have hm := allA_mem hc
    have ua := upB_iff.1 ha
    have hpm : p ∈ allA x a := by
      have h1 := (allA_iff hr ua.1 ua.2 c).1 hc
      have h2 := ((pars_small hr (i := c.toNat) (by omega)).2 p hp).1
      exact (allA_iff hr ua.1 ua.2 p).2 ⟨h2, Rc.step h1.2 hp⟩
    rw [pl_left hpm]
  · apply List.ext_getElem?
    intro j
    rw [sentL_at, Nat.zero_add, List.getElem?_map]
    unfold sendL
    rw [List.getElem?_map]
    cases hc : (leftL x (allA x a) b)[j]? with
    | none => rfl
    | some c =>
      have hcm := List.mem_of_getElem? hc
      obtain ⟨hj, hcj⟩ := List.getElem?_eq_some_iff.1 hc
      simp only [Option.map_some]
      congr 1
      unfold toC sendC renC
      simp only [List.map_map]
      congr 1
      refine List.map_congr_left fun p hp => ?_
      simp only [Function.comp_apply]
      have hup := ht.up c (List.mem_append_right _ hcm) p hp
      by_cases hpl : p ∈ leftL x (allA x a) b
      · have hna := way_disj hr ha hb hpl
        have es : sendP (allA x a) (leftL x (allA x a) b) p = plI (leftL x (allA x a) b) p := by unfold sendP; rw [hasB_iff.2 hpl]; rfl
        have h2 := hup.2
        rw [pl_right hna, pl_right (way_disj hr ha hb hcm), ← hcj, plI_at (leftL_asc x _ b) hj] at h2
        have h3 := plI_mem hpl
        rw [es, pl_right hna]
        unfold toP
        rw [upB_iff.2 (by omega)]
        rfl
      · have hpa : p ∈ allA x a := (List.mem_append.1 hup.1).resolve_right hpl
        have es : sendP (allA x a) (leftL x (allA x a) b) p = -1 - plI (allA x a) p := by unfold sendP; rw [Bool.eq_false_iff.2 fun e => hpl (hasB_iff.1 e)]; rfl
        have h3 := plI_mem hpa
        rw [es, pl_left hpa]
        unfold toP
        rw [show upB (j : Int) (-1 - plI (allA x a) p) = false from Bool.eq_false_iff.2 fun e => by have := upB_iff.1 e; omega, cond_false, theirs_at hr ha hb (by omega)]
        omega
theorem way_ok {n : Nat} {L : List Commit} (hL : comsB L = true) (hl : L.length ≤ 16) {e v : Int} (he : upB L.length e = true) (hv : upB L.length v = true) : repoB ⟨L, [⟨[120], v⟩, ⟨[121], e⟩]⟩ = true := by
  refine repoB_iff.2 ⟨⟨hl, hL⟩, headsB_iff.2 ⟨fun h hh => ?_, ?_, by simp⟩⟩
  · simp only [List.mem_cons, List.not_mem_nil, or_false] at hh
    rcases hh with rfl | rfl
    · exact ⟨show nameB [120] = true by decide, hv⟩
    · exact ⟨show nameB [121] = true by decide, he⟩
  · refine List.pairwise_cons.2 ⟨fun y hy => ?_, by simp⟩
    simp only [List.mem_cons, List.not_mem_nil, or_false] at hy
    rw [hy]
    show ([120] : Str) < [121]
    decide
theorem way_b (hne : leftL x (allA x a) b ≠ []) : b ∈ leftL x (allA x a) b ∧ plI (leftL x (allA x a) b) b = ((leftL x (allA x a) b).length : Int) - 1 := by
  have ua := upB_iff.1 ha
  have ub := upB_iff.1 hb
  obtain ⟨c, hc⟩ := List.exists_mem_of_ne_nil _ hne
  have hcb := (leftL_mem.1 hc).1
  have hbl : b ∈ leftL x (allA x a) b := leftL_mem.2 ⟨allA_self hr ub.1 ub.2, fun g hg hbg => by
    have hgm := allA_mem hg
    have h1 := (allA_iff hr ua.1 ua.2 g).1 hg
    have h2 := (allA_iff hr hgm.1 hgm.2 b).1 hbg
    have h3 := (allA_iff hr ub.1 ub.2 c).1 hcb
    exact way_disj hr ha hb hc ((allA_iff hr ua.1 ua.2 c).2 ⟨h3.1, (h1.2.trans h2.2).trans h3.2⟩)⟩
  refine ⟨hbl, ?_⟩
  have hlast := last_max (leftL_asc x (allA x a) b) hbl fun y hy => allA_le hr ub.1 ub.2 (leftL_mem.1 hy).1
  have hpos : 0 < (leftL x (allA x a) b).length := List.length_pos_of_mem hbl
  have hi : (leftL x (allA x a) b).length - 1 < (leftL x (allA x a) b).length := by omega
  rw [List.getD_eq_getElem?_getD, List.getElem?_eq_getElem hi, Option.getD_some] at hlast
  have := plI_at (leftL_asc x (allA x a) b) hi
  rw [hlast] at this
  omega
end
theorem FnSendWay_eq {code : List Byte} (h : Bk.fit code) : laws_FnSendWay code = some true := by
  unfold laws_FnSendWay
  by_cases hc : (1048576 : Int) < (code.length : Int)
  · rw [decide_eq_true hc]; rfl
  obtain ⟨x, a, b, e, hx, a0, a1, b0, b1⟩ := drawAncIs_eq (code := code) (by omega)
  have hrb := hx.rb
  have hcm := hx.coms
  have hal := ancAllB_len x a (by omega)
  rw [decide_eq_false hc, cond_false, e, Option.bind_some]
  simp only [repo_eta, iAncAll_eq hrb, sAncAll_eq hrb, Option.bind_some, jn, smInts_eq (show (ancAllB x a).length ≤ 1048576 by omega), beq_self_eq_true, Bool.not_true, cond_false]
  by_cases hz : (ancAllB x a).length = 0
  · rw [hz]; rfl
  rw [beq_false_of_ne (by omega), cond_false]
  by_cases hb1 : b < 0
  · rw [decide_eq_true hb1]; rfl
  rw [decide_eq_false hb1, cond_false]
  by_cases hb2 : (x.Commits.length : Int) ≤ b
  · rw [decide_eq_true hb2]; rfl
  rw [decide_eq_false hb2, cond_false]
  have hrr : repoB x = true ∧ upB x.Commits.length a = true := by
    unfold ancAllB at hz
    cases hq : (repoB x && upB x.Commits.length a) with
    | false => rw [hq] at hz; exact absurd rfl hz
    | true => simpa using hq
  obtain ⟨hr, ha⟩ := hrr
  have hub : upB x.Commits.length b = true := upB_iff.2 (by omega)
  have eA : ancAllB x a = allA x a := by unfold ancAllB; rw [hr, ha]; rfl
  have eB : ancAllB x b = allA x b := by unfold ancAllB; rw [hr, hub]; rfl
  rw [eA] at hal hz ⊢
  have hal2 := allA_len x a
  have hll := leftL_len x (allA x a) b
  have ho := alone_ok hr ha
  have hob : RpB ⟨x.Commits, [⟨[120], a⟩]⟩ := ⟨hrb.coms, hrb.com, by simp, fun y hy => by simp only [List.mem_cons, List.not_mem_nil, or_false] at hy; rw [hy]; simp⟩
  have hkb := keepR_rb hob ho
  have hk := keepR_ok ho
  have ht := top_send hr ha hub
  have hwa := way_all hr ha hub
  have hsus : suspB x (allA x a) b = true := by
    unfold suspB anyB
    rw [hr, hub, List.all_eq_true.2 fun y hy => upB_iff.2 (allA_mem hy), decide_eq_true (by omega)]
    rfl
  have eS : sendB x (allA x a) b = (sendL x (allA x a) (leftL x (allA x a) b), true) := by unfold sendB; rw [hsus, hwa]; rfl
  have hsB : SentB (sendL x (allA x a) (leftL x (allA x a) b)) := by have := sendB_sent hrb hcm (has := allA x a) (by omega) b; rwa [eS] at this
  have hsl : (sendL x (allA x a) (leftL x (allA x a) b)).length = (leftL x (allA x a) b).length := by simp [sendL]
  have hth : ((List.range (allA x a).length).map Int.ofNat).length = (allA x a).length := by simp
  rw [iKeepOnly_eq hob, ho, cond_true, Option.bind_some]
  simp only [fuel0]
  refine (way_l1 hal (allA x a).length 0 ((allA x a).length + 1) (by omega) (by omega)).trans ?_
  rw [iSendOf_eq hrb (by omega), eS, Option.bind_some]
  simp only [repo_eta]
  rw [iSendTake_eq hkb (by rw [hth]; omega) (by rw [keepR_len, alone_live hr ha, hsl]; omega) hsB.cb hsB.fit (by simp), Option.bind_some]
  have eK : keepR ⟨x.Commits, [⟨[120], a⟩]⟩ = ⟨renL x (allA x a), [⟨[120], plI (allA x a) a⟩]⟩ := alone_keep hr ha
  have eT : takeR (keepR ⟨x.Commits, [⟨[120], a⟩]⟩) ((List.range (allA x a).length).map Int.ofNat) (sendL x (allA x a) (leftL x (allA x a) b)) [121] = ⟨renL x (allA x a ++ leftL x (allA x a) b), [⟨[120], plI (allA x a) a⟩, ⟨[121], endAt ((List.range (allA x a).length).map Int.ofNat) (allA x a).length (leftL x (allA x a) b).length⟩]⟩ := by
    rw [eK]
    unfold takeR headR
    simp only [show (renL x (allA x a)).length = (allA x a).length by simp [renL], hsl]
    rw [way_coms hr ha hub]
    rfl
  have hself := allA_self hr (upB_iff.1 ha).1 (upB_iff.1 ha).2
  have hpa := plI_mem hself
  have hgl : (renL x (allA x a ++ leftL x (allA x a) b)).length = (allA x a).length + (leftL x (allA x a) b).length := by simp [renL]
  have hcoms : comsB (renL x (allA x a ++ leftL x (allA x a) b)) = true := ren_coms (x := ⟨renL x (allA x a ++ leftL x (allA x a) b), []⟩) hr ht rfl
  have hend : upB (renL x (allA x a ++ leftL x (allA x a) b)).length (endAt ((List.range (allA x a).length).map Int.ofNat) (allA x a).length (leftL x (allA x a) b).length) = true := by
    rw [hgl]
    unfold endAt
    by_cases h0 : (leftL x (allA x a) b).length = 0
    · rw [h0, show ((0 : Nat) == 0) = true from rfl, cond_true]
      unfold firstI
      rw [hth, decide_eq_true (by omega), cond_true, theirs_at hr ha hub (by omega)]
      exact upB_iff.2 (by omega)
    · rw [beq_false_of_ne h0, cond_false]
      exact upB_iff.2 (by omega)
  have hokS : okS ((List.range (allA x a).length).map Int.ofNat) 0 (sendL x (allA x a) (leftL x (allA x a) b)) = true := by
    have gen : ∀ (cs : List Commit) (i0 : Nat), (∀ (j : Nat) (c : Commit), cs[j]? = some c → c.Parents.all (onP ((List.range (allA x a).length).map Int.ofNat) (i0 + j)) = true) → okS ((List.range (allA x a).length).map Int.ofNat) i0 cs = true := by
      intro cs
      induction cs with
      | nil => exact fun _ _ => rfl
      | cons c cs ih =>
        intro i0 hcs
        unfold okS
        have h00 := hcs 0 c rfl
        rw [Nat.add_zero] at h00
        rw [h00, Bool.true_and]
        exact ih (i0 + 1) fun j d hd => by
          have := hcs (j + 1) d (by rw [List.getElem?_cons_succ]; exact hd)
          rwa [show i0 + (j + 1) = i0 + 1 + j by omega] at this
    refine gen _ 0 fun j d hd => ?_
    rw [Nat.zero_add]
    unfold sendL at hd
    rw [List.getElem?_map] at hd
    cases hcj : (leftL x (allA x a) b)[j]? with
    | none => rw [hcj] at hd; cases hd
    | some c =>
      rw [hcj] at hd
      cases hd
      have hcm2 := List.mem_of_getElem? hcj
      obtain ⟨hj, hcj2⟩ := List.getElem?_eq_some_iff.1 hcj
      rw [List.all_eq_true]
      intro q hq
      obtain ⟨p, hp, rfl⟩ := List.mem_map.1 hq
      have hup := ht.up c (List.mem_append_right _ hcm2) p hp
      unfold onP
      by_cases hpl : p ∈ leftL x (allA x a) b
      · have hna := way_disj hr ha hub hpl
        have es : sendP (allA x a) (leftL x (allA x a) b) p = plI (leftL x (allA x a) b) p := by unfold sendP; rw [hasB_iff.2 hpl]; rfl
        have h2 := hup.2
        rw [pl_right hna, pl_right (way_disj hr ha hub hcm2), ← hcj2, plI_at (leftL_asc x _ b) hj] at h2
        have h3 := plI_mem hpl
        rw [es, upB_iff.2 (by omega)]
        rfl
      · have hpa2 : p ∈ allA x a := (List.mem_append.1 hup.1).resolve_right hpl
        have es : sendP (allA x a) (leftL x (allA x a) b) p = -1 - plI (allA x a) p := by unfold sendP; rw [Bool.eq_false_iff.2 fun e => hpl (hasB_iff.1 e)]; rfl
        have h3 := plI_mem hpa2
        rw [es, hth, decide_eq_true (by omega), decide_eq_true (by omega)]
        simp
  have hany : anyB (keepR ⟨x.Commits, [⟨[120], a⟩]⟩) ((List.range (allA x a).length).map Int.ofNat) = true := by
    unfold anyB
    rw [hth, decide_eq_true (by omega), Bool.and_true, List.all_eq_true]
    intro y hy
    obtain ⟨i, hi, rfl⟩ := List.mem_map.1 hy
    rw [List.mem_range] at hi
    rw [keepR_len, alone_live hr ha]
    exact upB_iff.2 ⟨Int.natCast_nonneg i, by show (i : Int) ≤ _; omega⟩
  have eTB : takeB (keepR ⟨x.Commits, [⟨[120], a⟩]⟩) ((List.range (allA x a).length).map Int.ofNat) (sendL x (allA x a) (leftL x (allA x a) b)) [121] = bif repoB ⟨renL x (allA x a ++ leftL x (allA x a) b), [⟨[120], plI (allA x a) a⟩, ⟨[121], endAt ((List.range (allA x a).length).map Int.ofNat) (allA x a).length (leftL x (allA x a) b).length⟩]⟩ then (⟨renL x (allA x a ++ leftL x (allA x a) b), [⟨[120], plI (allA x a) a⟩, ⟨[121], endAt ((List.range (allA x a).length).map Int.ofNat) (allA x a).length (leftL x (allA x a) b).length⟩]⟩, true) else (keepR ⟨x.Commits, [⟨[120], a⟩]⟩, false) := by
    unfold takeB
    rw [hk, hokS, hany, eT]
    rfl
  rw [eTB]
  cases hfin : repoB ⟨renL x (allA x a ++ leftL x (allA x a) b), [⟨[120], plI (allA x a) a⟩, ⟨[121], endAt ((List.range (allA x a).length).map Int.ofNat) (allA x a).length (leftL x (allA x a) b).length⟩]⟩ with
  | false =>
    have hmany : 16 < (allA x a).length + (leftL x (allA x a) b).length := by
      rcases Nat.lt_or_ge 16 ((allA x a).length + (leftL x (allA x a) b).length) with q | q
      · exact q
      · have := way_ok hr ha hub (n := 0) hcoms (by rw [hgl]; exact q) hend (show upB (renL x (allA x a ++ leftL x (allA x a) b)).length (plI (allA x a) a) = true from upB_iff.2 (by rw [hgl]; omega))
        rw [hfin] at this
        cases this
    simp only [cond_false, Bool.not_true, Bool.not_false, cond_true, keepR_len, alone_live hr ha, hsl]
    rw [w64_id (by omega) (by omega), decide_eq_true (by omega)]
  | true =>
    by_cases h0 : (leftL x (allA x a) b).length = 0
    · simp only [cond_true, Bool.not_true, cond_false, hsl, h0]
      rfl
    · have hne : leftL x (allA x a) b ≠ [] := fun e => h0 (by rw [e]; rfl)
      obtain ⟨hbl, hbp⟩ := way_b hr ha hub hne
      have hX : (⟨renL x (allA x a ++ leftL x (allA x a) b), [⟨[120], plI (allA x a) a⟩, ⟨[121], endAt ((List.range (allA x a).length).map Int.ofNat) (allA x a).length (leftL x (allA x a) b).length⟩]⟩ : Repo).Commits = renL x (allA x a ++ leftL x (allA x a) b) := rfl
      have hrbX : RpB ⟨renL x (allA x a ++ leftL x (allA x a) b), [⟨[120], plI (allA x a) a⟩, ⟨[121], endAt ((List.range (allA x a).length).map Int.ofNat) (allA x a).length (leftL x (allA x a) b).length⟩]⟩ := by
        have := takeR_rb (has := (List.range (allA x a).length).map Int.ofNat) hkb hk hsB (n := [121]) (by simp)
        rwa [eT] at this
      have hfit : endAt ((List.range (allA x a).length).map Int.ofNat) (allA x a).length (leftL x (allA x a) b).length = plI (allA x a ++ leftL x (allA x a) b) b := by
        rw [pl_right (way_disj hr ha hub hbl), hbp]
        unfold endAt
        rw [beq_false_of_ne h0, cond_false]
        omega
      have hbg : b ∈ allA x a ++ leftL x (allA x a) b := List.mem_append_right _ hbl
      have hcount := ren_count hr hfin ht hX hbg
      generalize hXX : (⟨renL x (allA x a ++ leftL x (allA x a) b), [⟨[120], plI (allA x a) a⟩, ⟨[121], endAt ((List.range (allA x a).length).map Int.ofNat) (allA x a).length (leftL x (allA x a) b).length⟩]⟩ : Repo) = X at hX hrbX hfin hcount ⊢
      have hpb := plI_mem hbg
      have hXl : X.Commits.length = (allA x a ++ leftL x (allA x a) b).length := by rw [hX]; simp [renL]
      have eat : repoAt X [121] = plI (allA x a ++ leftL x (allA x a) b) b := by
        unfold repoAt
        rw [hfin, cond_true]
        have hm : (⟨[121], plI (allA x a ++ leftL x (allA x a) b) b⟩ : Head) ∈ X.Heads := by
          rw [← hXX, hfit]
          simp
        exact (at_here hfin hm).1
      have uX : upB X.Commits.length (plI (allA x a ++ leftL x (allA x a) b) b) = true := upB_iff.2 (by rw [hXl]; omega)
      have etr : treeOf X (plI (allA x a ++ leftL x (allA x a) b) b) = ((x.Commits.getD b.toNat noCommit).Tree, true) := by
        unfold treeOf
        rw [hfin, uX]
        show (treeAt X _, true) = _
        unfold treeAt
        obtain ⟨q0, q1, q2, q3⟩ := hpb
        rw [renL_at hX q2, q3]
        rfl
      have eanc : ancAllB X (plI (allA x a ++ leftL x (allA x a) b) b) = allA X (plI (allA x a ++ leftL x (allA x a) b) b) := by unfold ancAllB; rw [hfin, uX]; rfl
      have htb := tree_at_tb hrb hub
      unfold treeAt at htb
      simp only [cond_true, Bool.not_true, cond_false, hsl]
      rw [beq_false_of_ne (by omega), cond_false]
      simp only [repo_eta, iRepoAt_eq hrbX, eat, Option.bind_some, iRepoTree_eq hrbX, etr, com_atI (show 0 ≤ b by omega) (show b ≤ (x.Commits.length : Int) - 1 by omega), smTree_eq htb, beq_self_eq_true, cond_true, iAncAll_eq hrbX, eanc, iAncAll_eq hrb, eB, hcount]
end Go.Vm
namespace Go.Vm
open Go Go.Sx
set_option linter.unusedSimpArgs false
set_option linter.unusedVariables false
theorem AscI.lt {l : List Int} (h : AscI l) {i k : Nat} (hik : i < k) (hk : k < l.length) : l.getD i 0 < l.getD k 0 := by
  have h1 : i < l.length := by omega
  have := List.pairwise_iff_getElem.1 h i k h1 hk hik
  rw [getI_of (List.getElem?_eq_getElem h1), getI_of (List.getElem?_eq_getElem hk)]
  exact this
theorem AscI.inj {l : List Int} (h : AscI l) {i k : Nat} (hi : i < l.length) (hk : k < l.length) (e : l.getD i 0 = l.getD k 0) : i = k := by
  rcases Nat.lt_trichotomy i k with h1 | h1 | h1
  · have := h.lt h1 hk; omega
  · exact h1
  · have := h.lt h1 hi; omega
end Go.Vm
