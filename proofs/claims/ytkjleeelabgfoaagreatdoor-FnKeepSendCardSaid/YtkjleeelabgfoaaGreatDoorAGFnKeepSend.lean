/- Plain law FnKeepSend, and what it uses: what the models answer. Conditions: each law's own premises. -/
import Derived.Test.YtkjleeelabgfoaaGreatDoorAGFnKeepSenda
namespace Go.Vm
open Go Go.Sx
set_option linter.unusedSimpArgs false
set_option linter.unusedVariables false
theorem loop_fold {R α σ : Type} {xs : List α} {g : σ → α → σ} {I : σ → Prop} {f : Nat → Int → σ → Option R} {Z : σ → Option R}
    (hs : ∀ m (i : Nat) x s, xs[i]? = some x → I s → f (m + 1) (i : Int) s = f m ((i + 1 : Nat) : Int) (g s x) ∧ I (g s x)) (he : ∀ m s, I s → f (m + 1) (xs.length : Int) s = Z s) :
    ∀ (k i m : Nat) (s : σ), i + k = xs.length → k < m → I s → f m (i : Int) s = Z ((xs.drop i).foldl g s) ∧ I ((xs.drop i).foldl g s)
  | k, i, 0, s, _, hm, _ => by omega
  | 0, i, m + 1, s, hi, _, h => by
    obtain rfl : i = xs.length := by omega
    rw [List.drop_length, List.foldl_nil]
    exact ⟨he m s h, h⟩
  | k + 1, i, m + 1, s, hi, hm, h => by
    have hlt : i < xs.length := by omega
    obtain ⟨e1, e2⟩ := hs m i xs[i] s (List.getElem?_eq_getElem hlt) h
    rw [e1, List.drop_eq_getElem_cons hlt, List.foldl_cons]
    exact loop_fold hs he k (i + 1) m _ (by omega) (by omega) e2
theorem loop_fold0 {R α σ : Type} {xs : List α} {g : σ → α → σ} {I : σ → Prop} {f : Nat → Int → σ → Option R} {Z : σ → Option R} {s : σ} (h : I s)
    (hs : ∀ m (i : Nat) x s, xs[i]? = some x → I s → f (m + 1) (i : Int) s = f m ((i + 1 : Nat) : Int) (g s x) ∧ I (g s x)) (he : ∀ m s, I s → f (m + 1) (xs.length : Int) s = Z s) : f (xs.length + 1) 0 s = Z (xs.foldl g s) := by
  have := (loop_fold hs he xs.length 0 (xs.length + 1) s (by omega) (by omega) h).1
  rwa [List.drop_zero] at this
def setW (v : Bool) (mk : List Bool) (p : Int) : List Bool := mk.set p.toNat v
theorem foldW_len (v : Bool) : ∀ (ps : List Int) (mk : List Bool), (ps.foldl (setW v) mk).length = mk.length
  | [], mk => rfl
  | p :: ps, mk => by rw [List.foldl_cons, foldW_len v ps]; simp [setW]
theorem foldW_at (v : Bool) : ∀ (ps : List Int) (mk : List Bool) (j : Nat), j < mk.length → (ps.foldl (setW v) mk).getD j false = bif ps.any (fun p => Nat.beq p.toNat j) then v else mk.getD j false
  | [], mk, j, _ => rfl
  | p :: ps, mk, j, h => by
    rw [List.foldl_cons, foldW_at v ps _ j (by simp [setW]; exact h), List.any_cons]
    have hs : (setW v mk p).getD j false = bif Nat.beq p.toNat j then v else mk.getD j false := by
      unfold setW
      cases hb : Nat.beq p.toNat j with
      | true =>
        have e := Nat.eq_of_beq_eq_true hb
        rw [e]
        simp [List.getD, h]
      | false =>
        have hne : p.toNat ≠ j := fun e => by rw [e, Nat.beq_refl] at hb; cases hb
        simp only [List.getD, List.getElem?_set_ne hne]
        rfl
    rw [hs]
    cases Nat.beq p.toNat j <;> cases (ps.any fun p => Nat.beq p.toNat j) <;> rfl
theorem idxT_mem {mk : List Bool} {x : Int} : x ∈ idxT mk ↔ 0 ≤ x ∧ mkd mk x.toNat := by
  unfold idxT
  rw [List.mem_map]
  constructor
  · rintro ⟨i, hi, rfl⟩
    rw [List.mem_filter] at hi
    exact ⟨Int.natCast_nonneg i, hi.2⟩
  · rintro ⟨hx, h⟩
    exact ⟨x.toNat, List.mem_filter.2 ⟨List.mem_range.2 (mkd_lt h), h⟩, Int.toNat_of_nonneg hx⟩
theorem any_nat {l : List Int} {j : Nat} (h : ∀ p ∈ l, 0 ≤ p) : (l.any fun p => Nat.beq p.toNat j) = hasB l (j : Int) := by
  apply bool_ext
  rw [hasB_iff, List.any_eq_true]
  constructor
  · rintro ⟨p, hp, e⟩
    have := Nat.eq_of_beq_eq_true e
    rwa [← this, Int.toNat_of_nonneg (h p hp)]
  · intro hm
    exact ⟨_, hm, by rw [Int.toNat_natCast]; exact Nat.beq_refl j⟩
theorem idxT_len (mk : List Bool) : (idxT mk).length ≤ mk.length := by
  unfold idxT
  rw [List.length_map]
  exact Nat.le_trans (List.length_filter_le _ _) (by simp)
def leftL (r : Repo) (good : List Int) (bad : Int) : List Int := (allA r bad).filter fun x => good.all fun g => !hasB (allA r g) x
theorem leftL_asc (r : Repo) (good : List Int) (bad : Int) : AscI (leftL r good bad) := (allA_asc r bad).sublist List.filter_sublist
theorem leftL_len (r : Repo) (good : List Int) (bad : Int) : (leftL r good bad).length ≤ r.Commits.length := Nat.le_trans (List.length_filter_le _ _) (allA_len r bad)
theorem leftL_mem {r : Repo} {good : List Int} {bad x : Int} : x ∈ leftL r good bad ↔ x ∈ allA r bad ∧ ∀ g ∈ good, x ∉ allA r g := by
  unfold leftL
  rw [List.mem_filter, List.all_eq_true]
  constructor
  · rintro ⟨h1, h2⟩
    refine ⟨h1, fun g hg hx => ?_⟩
    have := h2 g hg
    rw [hasB_iff.2 hx] at this
    cases this
  · rintro ⟨h1, h2⟩
    refine ⟨h1, fun g hg => ?_⟩
    cases hb : hasB (allA r g) x with
    | false => rfl
    | true => exact absurd (hasB_iff.1 hb) (h2 g hg)
def sinceM (r : Repo) (ls : List Int) (mk : List Bool) : List Bool := ls.foldl (fun mk o => (allA r o).foldl (setW false) mk) mk
theorem sinceM_len (r : Repo) : ∀ (ls : List Int) (mk : List Bool), (sinceM r ls mk).length = mk.length
  | [], mk => rfl
  | o :: ls, mk => by
    have := sinceM_len r ls ((allA r o).foldl (setW false) mk)
    rw [foldW_len] at this
    exact this
theorem sinceM_at (r : Repo) : ∀ (ls : List Int) (mk : List Bool) (j : Nat), j < mk.length → (sinceM r ls mk).getD j false = (mk.getD j false && ls.all fun o => !hasB (allA r o) (j : Int))
  | [], mk, j, _ => by simp [sinceM]
  | o :: ls, mk, j, h => by
    have e := sinceM_at r ls ((allA r o).foldl (setW false) mk) j (by rw [foldW_len]; exact h)
    rw [foldW_at false _ _ _ h, any_nat (fun p hp => (allA_mem hp).1)] at e
    refine e.trans ?_
    rw [List.all_cons]
    cases hasB (allA r o) (j : Int) <;> cases mk.getD j false <;> rfl
theorem since_left {r : Repo} (hr : repoB r = true) {at_ : Int} (h0 : 0 ≤ at_) (h1 : at_ ≤ (r.Commits.length : Int) - 1) (ls : List Int) : idxT (sinceM r ls (marksA r at_.toNat)) = leftL r ls at_ := by
  refine AscI.ext (idxT_asc _) (leftL_asc _ _ _) fun x => ?_
  rw [idxT_mem, leftL_mem, allA_iff hr h0 h1]
  constructor
  · rintro ⟨hx, hm⟩
    have hlt := mkd_lt hm
    rw [sinceM_len, marksA_len] at hlt
    unfold mkd at hm
    rw [sinceM_at _ _ _ _ (by rw [marksA_len]; exact hlt), Bool.and_eq_true, List.all_eq_true] at hm
    refine ⟨⟨hx, (marksA_iff hr (show at_.toNat < r.Commits.length by omega) _).1 hm.1⟩, fun g hg hxg => ?_⟩
    have := hm.2 g hg
    rw [Int.toNat_of_nonneg hx, hasB_iff.2 hxg] at this
    cases this
  · rintro ⟨⟨hx, hc⟩, hg⟩
    have hm := (marksA_iff hr (show at_.toNat < r.Commits.length by omega) _).2 hc
    have hlt := mkd_lt hm
    refine ⟨hx, ?_⟩
    unfold mkd at hm ⊢
    rw [sinceM_at _ _ _ _ hlt, hm, Bool.true_and, List.all_eq_true]
    intro g hgm
    rw [Int.toNat_of_nonneg hx]
    cases hb : hasB (allA r g) x with
    | false => rfl
    | true => exact absurd (hasB_iff.1 hb) (hg g hgm)
theorem iSince_eq {r : Repo} (hr : repoB r = true) {at_ : Int} (ha : upB r.Commits.length at_ = true) {ls : List Int} (hl : ls.length ≤ 1000) (hg : ∀ g ∈ ls, upB r.Commits.length g = true) : impl_Repo_since r at_ ls = some (leftL r ls at_) := by
  obtain ⟨a0, a1⟩ := upB_iff.1 ha
  have hs := (repo_small hr).1
  unfold impl_Repo_since
  rw [ancestors_eq hr a0 a1, Option.bind_some]
  simp only [jn, fuel0]
  rw [loop_fold0 (xs := ls) (g := fun mk o => (allA r o).foldl (setW false) mk) (I := fun mk => mk.length = r.Commits.length) (Z := fun mk => (impl_listOf mk).bind fun z => some z) (f := fun m i mk => impl_Repo_since_l1 r ls _ m i mk) (marksA_len r _) (fun m i o mk ho hmk => by
    obtain ⟨o0, o1⟩ := upB_iff.1 (hg o (List.mem_of_getElem? ho))
    refine ⟨?_, by rw [foldW_len]; exact hmk⟩
    simp only [impl_Repo_since_l1, jn, lt_of ho, gi_of ho, cond_true, Option.bind_some, ancestors_eq hr o0 o1, listOf_eq (show (marksA r o.toNat).length ≤ 1000 by rw [marksA_len]; omega), fuel0]
    have hal := idxT_len (marksA r o.toNat)
    rw [marksA_len] at hal
    rw [loop_fold0 (xs := idxT (marksA r o.toNat)) (g := setW false) (I := fun mk => mk.length = r.Commits.length) (Z := fun mk => impl_Repo_since_l1 r ls (fun _ y14 => (impl_listOf y14).bind fun z63 => some z63) m (w64 ((i : Int) + 1)) mk) (f := fun m' i mk => impl_Repo_since_l2 (idxT (marksA r o.toNat)) _ m' i mk) hmk (fun m' i' x mk' hx hmk' => by
      have hxm := allA_mem (r := r) (a := o) (List.mem_of_getElem? hx)
      have hxl : x.toNat < mk'.length := by omega
      have e1 : gi mk' x = some (mk'.getD x.toNat false) := by
        have := getB_of hxl
        rwa [Int.toNat_of_nonneg hxm.1] at this
      have e2 : siM mk' x false = some (setW false mk' x) := by
        have := siM_of hxl false
        rwa [Int.toNat_of_nonneg hxm.1] at this
      refine ⟨?_, by simp [setW]; exact hmk'⟩
      simp only [impl_Repo_since_l2, lt_of hx, gi_of hx, cond_true, Option.bind_some, e1, e2, w64_ix (ix_of hx) (show (idxT (marksA r o.toNat)).length ≤ maxi by unfold maxi; omega)]) (fun m' mk' _ => by simp only [impl_Repo_since_l2, end_of, cond_false]), w64_ix (ix_of ho) (show ls.length ≤ maxi by unfold maxi; omega)]
    rfl) (fun m mk _ => by simp only [impl_Repo_since_l1, end_of, cond_false])]
  rw [show ls.foldl (fun mk o => (allA r o).foldl (setW false) mk) (marksA r at_.toNat) = sinceM r ls (marksA r at_.toNat) from rfl, listOf_eq (by rw [sinceM_len, marksA_len]; omega), Option.bind_some, since_left hr a0 a1]
def liveM (r : Repo) : List Bool := r.Heads.foldl (fun mk h => (allA r h.At).foldl (setW true) mk) (List.replicate r.Commits.length false)
def liveL (r : Repo) : List Int := idxT (liveM r)
theorem live_fold (r : Repo) : ∀ (hs : List Head) (mk : List Bool), (hs.foldl (fun mk (h : Head) => (allA r h.At).foldl (setW true) mk) mk).length = mk.length ∧ ∀ j, j < mk.length → (hs.foldl (fun mk (h : Head) => (allA r h.At).foldl (setW true) mk) mk).getD j false = (mk.getD j false || hs.any fun h => hasB (allA r h.At) (j : Int))
  | [], mk => ⟨rfl, fun j _ => by simp⟩
  | h :: hs, mk => by
    obtain ⟨e1, e2⟩ := live_fold r hs ((allA r h.At).foldl (setW true) mk)
    rw [foldW_len] at e1 e2
    rw [List.foldl_cons]
    refine ⟨e1, fun j hj => ?_⟩
    rw [e2 j hj, foldW_at true _ _ _ hj, any_nat (fun p hp => (allA_mem hp).1), List.any_cons]
    cases hasB (allA r h.At) (j : Int) <;> cases mk.getD j false <;> rfl
theorem liveM_len (r : Repo) : (liveM r).length = r.Commits.length := by
  have := (live_fold r r.Heads (List.replicate r.Commits.length false)).1
  unfold liveM
  simpa using this
theorem liveL_len (r : Repo) : (liveL r).length ≤ r.Commits.length := by
  have := idxT_len (liveM r)
  rwa [liveM_len] at this
theorem live_has {r : Repo} {j : Nat} (hj : j < r.Commits.length) : hasB (liveL r) (j : Int) = r.Heads.any fun h => hasB (allA r h.At) (j : Int) := by
  have e := (live_fold r r.Heads (List.replicate r.Commits.length false)).2 j (by simpa using hj)
  apply bool_ext
  rw [hasB_iff]
  unfold liveL
  rw [idxT_mem, Int.toNat_natCast]
  unfold mkd liveM
  rw [e]
  have : (List.replicate r.Commits.length false).getD j false = false := by
    rw [List.getD, List.getElem?_replicate]
    split <;> rfl
  rw [this, Bool.false_or]
  exact ⟨fun h => h.2, fun h => ⟨Int.natCast_nonneg j, h⟩⟩
theorem iLive_eq {r : Repo} (hr : repoB r = true) : impl_Repo_live r = some (liveM r) := by
  have hs := repo_small hr
  unfold impl_Repo_live
  rw [mkM_of (by simp [lim]; omega), Option.bind_some]
  simp only [jn, fuel0]
  rw [loop_fold0 (xs := r.Heads) (g := fun mk (h : Head) => (allA r h.At).foldl (setW true) mk) (I := fun mk => mk.length = r.Commits.length) (Z := fun mk => some mk) (f := fun m i mk => impl_Repo_live_l1 r _ m i mk) (by simp) (fun m i o mk ho hmk => by
    have hat := head_at hr (List.mem_of_getElem? ho)
    refine ⟨?_, by rw [foldW_len]; exact hmk⟩
    simp only [impl_Repo_live_l1, jn, lt_of ho, gi_of ho, cond_true, Option.bind_some, ancestors_eq hr hat.1 hat.2.1, listOf_eq (show (marksA r o.At.toNat).length ≤ 1000 by rw [marksA_len]; omega), fuel0]
    have hal := idxT_len (marksA r o.At.toNat)
    rw [marksA_len] at hal
    rw [loop_fold0 (xs := idxT (marksA r o.At.toNat)) (g := setW true) (I := fun mk => mk.length = r.Commits.length) (Z := fun mk => impl_Repo_live_l1 r (fun _ y13 => some y13) m (w64 ((i : Int) + 1)) mk) (f := fun m' i mk => impl_Repo_live_l2 (idxT (marksA r o.At.toNat)) _ m' i mk) hmk (fun m' i' x mk' hx hmk' => by
      have hxm := allA_mem (r := r) (a := o.At) (List.mem_of_getElem? hx)
      have hxl : x.toNat < mk'.length := by omega
      have e1 : gi mk' x = some (mk'.getD x.toNat false) := by
        have := getB_of hxl
        rwa [Int.toNat_of_nonneg hxm.1] at this
      have e2 : siM mk' x true = some (setW true mk' x) := by
        have := siM_of hxl true
        rwa [Int.toNat_of_nonneg hxm.1] at this
      refine ⟨?_, by simp [setW]; exact hmk'⟩
      simp only [impl_Repo_live_l2, lt_of hx, gi_of hx, cond_true, Option.bind_some, e1, e2, w64_ix (ix_of hx) (show (idxT (marksA r o.At.toNat)).length ≤ maxi by unfold maxi; omega)]) (fun m' mk' _ => by simp only [impl_Repo_live_l2, end_of, cond_false]), w64_ix (ix_of ho) (show r.Heads.length ≤ maxi by unfold maxi; omega)]
    rfl) (fun m mk _ => by simp only [impl_Repo_live_l1, end_of, cond_false])]
  rfl
theorem live_l3 {mk : List Bool} (hl : mk.length ≤ 1000) : ∀ (k i m : Nat) (out : List Int), i + k = mk.length → k < m → out.length ≤ i →
    spec_l14Live_l3 mk (fun y69 _ => some y69) m out (i : Int) = some (out ++ ((List.range' i k).filter fun i => mk.getD i false).map Int.ofNat)
  | k, i, 0, out, _, hm, _ => by omega
  | 0, i, m + 1, out, hi, _, _ => by
    obtain rfl : i = mk.length := by omega
    simp only [spec_l14Live_l3, end_of, cond_false]
    simp
  | k + 1, i, m + 1, out, hi, hm, ho => by
    have hlt : i < mk.length := by omega
    have hx : mk[i]? = some mk[i] := List.getElem?_eq_getElem hlt
    simp only [spec_l14Live_l3, jn, lt_of hx, cond_true, getB_of hlt, Option.bind_some, w64_ix hlt (show mk.length ≤ maxi by unfold maxi; omega), ap1 (x := (i : Int)) (show out.length ≤ 1048576 by omega)]
    rw [List.range'_succ, List.filter_cons]
    cases hb : mk.getD i false with
    | true =>
      rw [cond_true, live_l3 hl k (i + 1) m _ (by omega) (by omega) (by simp; omega), if_pos rfl]
      simp
    | false =>
      rw [cond_false, live_l3 hl k (i + 1) m _ (by omega) (by omega) (by omega), if_neg (by simp)]
theorem l14Live_eq {r : Repo} (hr : repoB r = true) : spec_l14Live r = some (liveL r) := by
  have hs := repo_small hr
  unfold spec_l14Live
  rw [mkM_of (by simp [lim]; omega), Option.bind_some]
  simp only [jn, fuel0]
  rw [loop_fold0 (xs := r.Heads) (g := fun mk (h : Head) => (allA r h.At).foldl (setW true) mk) (I := fun mk => mk.length = r.Commits.length) (Z := fun mk => spec_l14Live_l3 mk (fun y69 _ => some y69) (mk.length + 1) ([] : List Int) 0) (f := fun m i mk => spec_l14Live_l1 r _ m i mk) (by simp) (fun m i o mk ho hmk => by
    have hat := head_at hr (List.mem_of_getElem? ho)
    refine ⟨?_, by rw [foldW_len]; exact hmk⟩
    simp only [spec_l14Live_l1, jn, lt_of ho, gi_of ho, cond_true, Option.bind_some, l8All_eq hr hat.1 hat.2.1, fuel0]
    have hal := allA_len r o.At
    rw [loop_fold0 (xs := allA r o.At) (g := setW true) (I := fun mk => mk.length = r.Commits.length) (Z := fun mk => spec_l14Live_l1 r (fun _ y12 => spec_l14Live_l3 y12 (fun y59 _ => some y59) (y12.length + 1) ([] : List Int) 0) m (w64 ((i : Int) + 1)) mk) (f := fun m' i mk => spec_l14Live_l2 (allA r o.At) _ m' i mk) hmk (fun m' i' x mk' hx hmk' => by
      have hxm := allA_mem (r := r) (a := o.At) (List.mem_of_getElem? hx)
      have hxl : x.toNat < mk'.length := by omega
      have e1 : gi mk' x = some (mk'.getD x.toNat false) := by
        have := getB_of hxl
        rwa [Int.toNat_of_nonneg hxm.1] at this
      have e2 : siM mk' x true = some (setW true mk' x) := by
        have := siM_of hxl true
        rwa [Int.toNat_of_nonneg hxm.1] at this
      refine ⟨?_, by simp [setW]; exact hmk'⟩
      simp only [spec_l14Live_l2, lt_of hx, gi_of hx, cond_true, Option.bind_some, e1, e2, w64_ix (ix_of hx) (show (allA r o.At).length ≤ maxi by unfold maxi; omega)]) (fun m' mk' _ => by simp only [spec_l14Live_l2, end_of, cond_false]), w64_ix (ix_of ho) (show r.Heads.length ≤ maxi by unfold maxi; omega)]
    ) (fun m mk _ => by simp only [spec_l14Live_l1, end_of, cond_false])]
  have hl := liveM_len r
  have e3 := live_l3 (mk := liveM r) (by omega) (liveM r).length 0 ((liveM r).length + 1) [] (by omega) (by omega) (by simp)
  refine e3.trans ?_
  unfold liveL idxT
  rw [List.range_eq_range']
  rfl
section
variable {r : l30Rd} {p : Int}
theorem dropR_drawn {x : Repo} (h : Drawn x) (n : Str) : Drawn (bif repoB x then ⟨x.Commits, x.Heads.filter fun h => h.Name != n⟩ else ⟨[], []⟩) := by
  cases repoB x with
  | false => exact ⟨⟨by simp, fun c hc => by simp at hc, by simp, fun c hc => by simp at hc⟩, by simp, by simp⟩
  | true =>
    have hl := List.length_filter_le (fun h : Head => h.Name != n) x.Heads
    exact ⟨⟨h.rb.coms, h.rb.com, Nat.le_trans hl h.rb.heads, fun y hy => h.rb.head y (List.mem_filter.1 hy).1⟩, h.coms, Nat.le_trans hl h.heads⟩
theorem sDrop_some {x : Repo} (h : RpB x) (n : Str) : ∃ b, spec_RepoDrop x n = some ((bif repoB x then ⟨x.Commits, x.Heads.filter fun h => h.Name != n⟩ else ⟨[], []⟩), b) := by
  have hm := to_maxi h.heads
  have hl := h.heads
  unfold spec_RepoDrop
  rw [l7Ok_eq h, Option.bind_some]
  cases repoB x with
  | false => exact ⟨_, rfl⟩
  | true =>
    simp only [Bool.not_true, cond_false, cond_true, l7Copy_eq h, Option.bind_some, jn, fuel0]
    rw [loop_filter (xs := x.Heads) (p := fun h => h.Name != n) (g := fun h : Head => h) (Z := fun acc => some (Repo.mk x.Commits acc, decide ((acc.length : Int) < (x.Heads.length : Int)))) (f := fun m acc i => spec_RepoDrop_l1 x n _ m i x.Commits acc) (fun m i y acc hx ha => by
      have hi := ix_of hx
      simp only [spec_RepoDrop_l1, jn, lt_of hx, gi_of hx, cond_true, Option.bind_some, w64_ix hi hm, ap1 (show acc.length ≤ 1048576 by omega)]
      cases y.Name != n <;> rfl) (fun m acc => by simp only [spec_RepoDrop_l1, end_of, cond_false]) (by omega)]
    rw [List.map_id']
    exact ⟨_, rfl⟩
theorem loose_l1 {x0 : l30Rd} : ∀ (k m : Nat) (q p : Int) (x : Repo), k < m → k ≤ 1000 → Drawn x → RdOk ⟨x0.b, q⟩ p → p + k ≤ 1000000 →
    ∃ x' q', spec_l30Loose_l1 x0 (fun _ y34 y36 y39 => some (Vm.Repo.mk y36 y39, y34)) m (k : Int) q x.Commits x.Heads = some (x', q') ∧ Drawn x'
  | k, 0, q, p, x, hm, _, _, _, _ => by omega
  | 0, m + 1, q, p, x, _, _, hx, _, _ => by
    simp only [spec_l30Loose_l1, jn]
    rw [decide_eq_false (by omega), cond_false]
    exact ⟨x, q, rfl, hx⟩
  | k + 1, m + 1, q, p, x, hm, hk, hx, hr, hp => by
    obtain ⟨s, e1, _⟩ := branch_eq hr (by omega)
    have hr1 := rd_on (q := p + 1) hr (k := 1) (by omega) (by omega)
    obtain ⟨b, e2⟩ := sDrop_some hx.rb s
    have hd := dropR_drawn hx s
    simp only [spec_l30Loose_l1, jn]
    rw [decide_eq_true (by omega), cond_true, e1, Option.bind_some, show (⟨x.Commits, x.Heads⟩ : Repo) = x from rfl, e2, Option.bind_some]
    generalize (bif repoB x then (⟨x.Commits, x.Heads.filter fun h => h.Name != s⟩ : Repo) else ⟨[], []⟩) = y at hd
    have hw : w64 (((k + 1 : Nat) : Int) - 1) = (k : Int) := by rw [w64_id (by omega) (by omega)]; omega
    obtain ⟨x1, q1, i1, d1⟩ := loose_l1 (x0 := x0) k m (q + 1) (p + 1) y (by omega) (by omega) hd hr1 (by omega)
    obtain ⟨x2, q2, i2, d2⟩ := loose_l1 (x0 := x0) k m (q + 1) (p + 1) x (by omega) (by omega) hx hr1 (by omega)
    rw [show (⟨(y, b).1.Commits, (y, b).1.Heads⟩ : Repo) = y from rfl, l7Ok_eq hd.rb, Option.bind_some, l7Ok_eq hx.rb, Option.bind_some, hw]
    cases repoB y with
    | false => exact ⟨x2, q2, i2, d2⟩
    | true =>
      cases repoB x with
      | false => exact ⟨x2, q2, i2, d2⟩
      | true => exact ⟨x1, q1, i1, d1⟩
theorem loose_eq (h : RdOk r p) (hp : p ≤ 1000) : ∃ x q, spec_l30Loose r = some (x, q) ∧ Drawn x := by
  unfold spec_l30Loose
  obtain ⟨x, q, e, hx, r2⟩ := anyRepo_eq h (by omega)
  obtain ⟨k, e2, k0, k1⟩ := pick_eq r2 (n := 3) (by omega) (by omega) (by omega)
  obtain ⟨n, rfl⟩ := Int.eq_ofNat_of_zero_le k0
  rw [e, Option.bind_some, e2, Option.bind_some]
  simp only [jn]
  exact loose_l1 (x0 := r) n _ (q + 1) (p + 2011) x (by omega) (by omega) hx (rd_on (r := ⟨r.b, q⟩) (q := p + 2011) r2 (k := 1) (by omega) (by omega)) (by omega)
end
end Go.Vm
namespace Go.Vm
open Go Go.Sx
set_option linter.unusedSimpArgs false
set_option linter.unusedVariables false
def plI (l : List Int) (n : Int) : Int := (l.idxOf n : Int)
theorem AscI.nodup {l : List Int} (h : AscI l) : l.Nodup := List.Pairwise.imp (fun hab e => by rw [e] at hab; exact Int.lt_irrefl _ hab) h
theorem plI_at {l : List Int} (h : AscI l) {i : Nat} (hi : i < l.length) : plI l l[i] = (i : Int) := by
  unfold plI
  rw [h.nodup.idxOf_getElem i hi]
theorem plI_mem {l : List Int} {n : Int} (h : n ∈ l) : 0 ≤ plI l n ∧ plI l n < (l.length : Int) ∧ ∃ hi : (plI l n).toNat < l.length, l[(plI l n).toNat] = n := by
  unfold plI
  have hl := List.idxOf_lt_length_of_mem h
  refine ⟨Int.natCast_nonneg _, by omega, hl, ?_⟩
  exact List.getElem_idxOf hl
theorem plI_lt {l : List Int} (h : AscI l) {a b : Int} (ha : a ∈ l) (hb : b ∈ l) (hab : a < b) : plI l a < plI l b := by
  obtain ⟨i, hi, rfl⟩ := List.getElem_of_mem ha
  obtain ⟨j, hj, rfl⟩ := List.getElem_of_mem hb
  rw [plI_at h hi, plI_at h hj]
  have hp := List.pairwise_iff_getElem.1 h
  rcases Nat.lt_trichotomy i j with q | q | q
  · omega
  · subst q; exact absurd hab (Int.lt_irrefl _)
  · have := hp j i hj hi q
    omega
theorem plI_inj {l : List Int} (h : AscI l) {a b : Int} (ha : a ∈ l) (hb : b ∈ l) (e : plI l a = plI l b) : a = b := by
  rcases Int.lt_trichotomy a b with q | q | q
  · have := plI_lt h ha hb q; omega
  · exact q
  · have := plI_lt h hb ha q; omega
theorem liveL_asc (r : Repo) : AscI (liveL r) := idxT_asc _
theorem liveL_mem {r : Repo} (hr : repoB r = true) {x : Int} : x ∈ liveL r ↔ ∃ h ∈ r.Heads, x ∈ allA r h.At := by
  constructor
  · intro hx
    have h0 := idxT_mem.1 hx
    have hl : x.toNat < r.Commits.length := by
      rcases Nat.lt_or_ge x.toNat r.Commits.length with q | q
      · exact q
      · have := h0.2
        unfold mkd at this
        rw [List.getD_eq_getElem?_getD, List.getElem?_eq_none (by rw [liveM_len]; exact q)] at this
        cases this
    have e := live_has (r := r) hl
    rw [show ((x.toNat : Nat) : Int) = x by omega, hasB_iff.2 hx] at e
    obtain ⟨h, h1, h2⟩ := List.any_eq_true.1 e.symm
    exact ⟨h, h1, hasB_iff.1 h2⟩
  · rintro ⟨h, h1, h2⟩
    have hm := allA_mem h2
    have e := live_has (r := r) (j := x.toNat) (by omega)
    rw [show ((x.toNat : Nat) : Int) = x by omega] at e
    refine hasB_iff.1 (e.trans ?_)
    exact List.any_eq_true.2 ⟨h, h1, hasB_iff.2 h2⟩
theorem live_range {r : Repo} (hr : repoB r = true) {x : Int} (hx : x ∈ liveL r) : 0 ≤ x ∧ x ≤ (r.Commits.length : Int) - 1 := by
  obtain ⟨h, _, h2⟩ := (liveL_mem hr).1 hx
  exact allA_mem h2
theorem live_rc {r : Repo} (hr : repoB r = true) {x : Int} (hx : x ∈ liveL r) {c : Nat} (hc : Rc r x.toNat c) : (c : Int) ∈ liveL r := by
  obtain ⟨h, h1, h2⟩ := (liveL_mem hr).1 hx
  have ha := head_at hr h1
  obtain ⟨q0, q1⟩ := (allA_iff hr ha.1 ha.2.1 x).1 h2
  exact (liveL_mem hr).2 ⟨h, h1, (allA_iff hr ha.1 ha.2.1 _).2 ⟨Int.natCast_nonneg _, q1.trans hc⟩⟩
theorem live_par {r : Repo} (hr : repoB r = true) {x p : Int} (hx : x ∈ liveL r) (hp : p ∈ parsAt r x.toNat) : p ∈ liveL r := by
  have hm := live_range hr hx
  have h0 := ((pars_small hr (i := x.toNat) (by omega)).2 p hp).1
  have := live_rc hr hx (Rc.step (Rc.refl _) hp)
  rwa [show ((p.toNat : Nat) : Int) = p by omega] at this
theorem live_head {r : Repo} (hr : repoB r = true) {h : Head} (hh : h ∈ r.Heads) : h.At ∈ liveL r := by
  have ha := head_at hr hh
  exact (liveL_mem hr).2 ⟨h, hh, allA_self hr ha.1 ha.2.1⟩
def renC (l : List Int) (c : Commit) : Commit := ⟨c.Parents.map (plI l), c.Who, c.Tree⟩
def renH (l : List Int) (h : Head) : Head := ⟨h.Name, plI l h.At⟩
def keepR (r : Repo) : Repo := ⟨(liveL r).map fun i => renC (liveL r) (r.Commits.getD i.toNat noCommit), r.Heads.map (renH (liveL r))⟩
theorem keepR_len (r : Repo) : (keepR r).Commits.length = (liveL r).length := by simp [keepR]
theorem keepR_at {r : Repo} {i : Nat} (hi : i < (liveL r).length) : (keepR r).Commits.getD i noCommit = renC (liveL r) (r.Commits.getD (liveL r)[i].toNat noCommit) := by
  have hx : (keepR r).Commits[i]? = some (renC (liveL r) (r.Commits.getD (liveL r)[i].toNat noCommit)) := by
    unfold keepR
    simp only
    rw [List.getElem?_map, List.getElem?_eq_getElem hi]
    rfl
  exact getC_of hx
theorem keepR_ok {r : Repo} (hr : repoB r = true) : repoB (keepR r) = true := by
  have hA := liveL_asc r
  have hR := repoB_iff.1 hr
  have hle := liveL_len r
  refine repoB_iff.2 ⟨⟨by rw [keepR_len]; omega, ?_⟩, headsB_iff.2 ⟨fun h hh => ?_, ?_, ?_⟩⟩
  · refine allN_iff.2 fun i _ hi => ?_
    rw [keepR_len, Nat.zero_add] at hi
    have hm := List.getElem_mem hi
    have hx := live_range hr hm
    have hc := repo_com hr (i := (liveL r)[i].toNat) (by omega)
    rw [keepR_at hi]
    unfold comB at hc ⊢
    simp only [Bool.and_eq_true, List.all_eq_true] at hc ⊢
    obtain ⟨c1, c2, c3, c4⟩ := hc
    have hsub : ∀ p ∈ (r.Commits.getD (liveL r)[i].toNat noCommit).Parents, p ∈ liveL r := fun p hp => live_par hr hm hp
    refine ⟨fun q hq => ?_, by simpa [renC] using c2, ?_, c4⟩
    · obtain ⟨p, hp, rfl⟩ := List.mem_map.1 hq
      have hu := upB_iff.1 (c1 p hp)
      have h1 := plI_mem (hsub p hp)
      have h2 := plI_lt hA (hsub p hp) hm (by omega)
      rw [plI_at hA hi] at h2
      exact upB_iff.2 (by omega)
    · show twoB ((r.Commits.getD (liveL r)[i].toNat noCommit).Parents.map (plI (liveL r))) = true
      revert c3 hsub
      generalize (r.Commits.getD (liveL r)[i].toNat noCommit).Parents = ps
      intro c3 hsub
      match ps with
      | [] => rfl
      | [p] => rfl
      | [p, q] =>
        have hne : p ≠ q := by simpa [twoB] using c3
        have : plI (liveL r) p ≠ plI (liveL r) q := fun e => hne (plI_inj hA (hsub p (by simp)) (hsub q (by simp)) e)
        simpa [twoB] using this
      | p :: q :: s :: t => rfl
  · obtain ⟨g, hg, rfl⟩ := List.mem_map.1 hh
    have h1 := plI_mem (live_head hr hg)
    exact ⟨(head_at hr hg).2.2, upB_iff.2 (by rw [keepR_len]; show 0 ≤ plI _ _ ∧ plI _ _ ≤ _; omega)⟩
  · show ((r.Heads.map (renH (liveL r))).Pairwise fun x y => x.Name < y.Name)
    rw [List.pairwise_map]
    exact (headsB_iff.1 hR.2).2.1
  · show (r.Heads.map _).length ≤ 5
    rw [List.length_map]
    exact (headsB_iff.1 hR.2).2.2
end Go.Vm
namespace Go.Vm
open Go Go.Sx
set_option linter.unusedSimpArgs false
set_option linter.unusedVariables false
def fit64 (p : Int) : Prop := -9223372036854775808 ≤ p ∧ p ≤ 9223372036854775807
def onP (has : List Int) (i : Nat) (p : Int) : Bool := upB i p || (decide (p < 0) && decide (-(has.length : Int) ≤ p))
def toP (has : List Int) (base i : Nat) (p : Int) : Int := bif upB i p then (base : Int) + p else has.getD (-1 - p).toNat 0
def toC (has : List Int) (base i : Nat) (c : Commit) : Commit := ⟨c.Parents.map (toP has base i), c.Who, c.Tree⟩
def okS (has : List Int) : Nat → List Commit → Bool
  | _, [] => true
  | i, c :: cs => c.Parents.all (onP has i) && okS has (i + 1) cs
def sentL (has : List Int) (base : Nat) : Nat → List Commit → List Commit
  | _, [] => []
  | i, c :: cs => toC has base i c :: sentL has base (i + 1) cs
theorem sentL_len (has : List Int) (base : Nat) : ∀ (cs : List Commit) (i : Nat), (sentL has base i cs).length = cs.length
  | [], i => rfl
  | c :: cs, i => by simp [sentL, sentL_len has base cs]
theorem sentL_mem {has : List Int} {base : Nat} : ∀ {cs : List Commit} {i : Nat} {x : Commit}, x ∈ sentL has base i cs → ∃ j c, c ∈ cs ∧ x = toC has base j c
  | [], i, x, h => by simp [sentL] at h
  | c :: cs, i, x, h => by
    simp only [sentL, List.mem_cons] at h
    rcases h with rfl | h
    · exact ⟨i, c, by simp, rfl⟩
    · obtain ⟨j, d, hd, e⟩ := sentL_mem h
      exact ⟨j, d, List.mem_cons_of_mem _ hd, e⟩
def firstI (has : List Int) : Int := bif decide (0 < (has.length : Int)) then has.getD 0 0 else -1
def endAt (has : List Int) (base n : Nat) : Int := bif n == 0 then firstI has else ((base + n - 1 : Nat) : Int)
def takeR (r : Repo) (has : List Int) (sent : List Commit) (n : Str) : Repo := headR ⟨r.Commits ++ sentL has r.Commits.length 0 sent, r.Heads⟩ n (endAt has r.Commits.length sent.length)
def takeB (r : Repo) (has : List Int) (sent : List Commit) (n : Str) : Repo × Bool := bif repoB r then (bif okS has 0 sent && (anyB r has && repoB (takeR r has sent n)) then (takeR r has sent n, true) else (r, false)) else (zeroR, false)
def half (f : Int → Int) (P : List Int) (k : Nat) : List Int := (P.take k).map f ++ P.drop k
theorem half_len (f : Int → Int) (P : List Int) (k : Nat) : (half f P k).length = P.length := by unfold half; simp; omega
theorem half_at {f : Int → Int} {P : List Int} {k : Nat} (h : k < P.length) : (half f P k)[k]? = some P[k] := by
  unfold half
  rw [List.getElem?_append_right (by simp; omega)]
  simp [Nat.min_eq_left (Nat.le_of_lt h)]
theorem half_set {f : Int → Int} {P : List Int} {k : Nat} (h : k < P.length) : (half f P k).set k (f P[k]) = half f P (k + 1) := by
  unfold half
  have hl : ((P.take k).map f).length = k := by simp; omega
  rw [List.set_append_right _ _ (by omega), hl, Nat.sub_self, List.drop_eq_getElem_cons h, List.set_cons_zero, List.take_add_one, List.getElem?_eq_getElem h, List.map_append, List.append_assoc]
  rfl
theorem half_end (f : Int → Int) (P : List Int) : half f P P.length = P.map f := by unfold half; simp
section
variable {r : Repo} {has : List Int} {sent : List Commit}
theorem neg_w {p : Int} (h : fit64 p) : w64 (-1 - p) = -1 - p := w64_id (by unfold fit64 at h; omega) (by unfold fit64 at h; omega)
theorem had_at {p : Int} (h0 : p < 0) (h1 : -(has.length : Int) ≤ p) : gi has (-1 - p) = some (has.getD (-1 - p).toNat 0) := by
  have := gi_getI (l := has) (i := (-1 - p).toNat) (by omega)
  rwa [show (((-1 - p).toNat : Nat) : Int) = -1 - p by omega] at this
theorem ist_l2 (hr : RpB r) (hh : has.length ≤ 1048576) {i : Nat} (hi : i ≤ 1048576) {c : Commit} (hl : c.Parents.length ≤ 1048576) (hf : ∀ p ∈ c.Parents, fit64 p) {K : Bool → Int → List Commit → List Head → List Int → Str → List File → Option (Repo × Bool)} {b : Bool} {j1 : List Commit} {j2 : List Head} {s : Str} {t : List File} : ∀ (j k m : Nat), k + j = c.Parents.length → j < m →
    impl_SendTake_l2 r has i c K m b (k : Int) j1 j2 ((c.Parents.take k).map (toP has r.Commits.length i)) s t = bif (c.Parents.drop k).all (onP has i) then K b (c.Parents.length : Int) j1 j2 (c.Parents.map (toP has r.Commits.length i)) s t else some (r, false)
  | j, k, 0, _, hm => by omega
  | 0, k, m + 1, hk, _ => by
    obtain rfl : k = c.Parents.length := by omega
    simp only [impl_SendTake_l2, end_of, cond_false, List.drop_length, List.all_nil, cond_true, List.take_length]
  | j + 1, k, m + 1, hk, hm => by
    have hlt : k < c.Parents.length := by omega
    have hp := hf _ (List.getElem_mem hlt)
    have hx : c.Parents[k]? = some c.Parents[k] := List.getElem?_eq_getElem hlt
    have hbase := hr.coms
    have ih := ist_l2 (K := K) (b := b) (j1 := j1) (j2 := j2) (s := s) (t := t) hr hh hi hl hf j (k + 1) m (by omega) (by omega)
    have htk : (c.Parents.take (k + 1)).map (toP has r.Commits.length i) = (c.Parents.take k).map (toP has r.Commits.length i) ++ [toP has r.Commits.length i c.Parents[k]] := by
      rw [List.take_add_one, hx, List.map_append]; rfl
    have hap : ∀ v : Int, apM ((c.Parents.take k).map (toP has r.Commits.length i)) [v] = some ((c.Parents.take k).map (toP has r.Commits.length i) ++ [v]) := fun v => ap1 (by simp; omega)
    have hn0 : w64 (0 - (has.length : Int)) = -(has.length : Int) := by rw [w64_id (by omega) (by omega)]; omega
    rw [htk] at ih
    simp only [impl_SendTake_l2, jn, lt_of hx, gi_of hx, cond_true, Option.bind_some, within_eq, low_ix (show i ≤ maxi by unfold maxi; omega), w64_ix hlt (show c.Parents.length ≤ maxi by unfold maxi; omega), neg_w hp, hn0, hap, rOwn_eq hr]
    rw [show (decide ((0 : Int) ≤ c.Parents[k]) && decide (c.Parents[k] ≤ (i : Int) - 1)) = upB i c.Parents[k] from rfl, List.drop_eq_getElem_cons hlt, List.all_cons]
    cases hu : upB i c.Parents[k] with
    | true =>
      have hv : onP has i c.Parents[k] = true := by unfold onP; rw [hu]; rfl
      have ht : toP has r.Commits.length i c.Parents[k] = w64 ((r.Commits.length : Int) + c.Parents[k]) := by
        obtain ⟨u0, u1⟩ := upB_iff.1 hu
        unfold toP
        rw [hu, cond_true, w64_id (by omega) (by omega)]
      rw [cond_true, ← ht, hv, Bool.true_and]
      exact ih
    | false =>
      rw [cond_false]
      by_cases hd : (decide (-(has.length : Int) ≤ c.Parents[k]) && decide (c.Parents[k] ≤ -1)) = true
      · rw [hd, cond_true]
        simp only [Bool.and_eq_true, decide_eq_true_eq] at hd
        have hv : onP has i c.Parents[k] = true := by
          unfold onP
          rw [hu, decide_eq_true (show c.Parents[k] < 0 by omega), decide_eq_true (show -(has.length : Int) ≤ c.Parents[k] by omega)]; rfl
        have ht : toP has r.Commits.length i c.Parents[k] = has.getD (-1 - c.Parents[k]).toNat 0 := by unfold toP; rw [hu, cond_false]
        rw [had_at (by omega) (by omega), Option.bind_some, ← ht, hv, Bool.true_and]
        exact ih
      · have hv : onP has i c.Parents[k] = false := by
          unfold onP
          rw [hu, Bool.false_or]
          cases hq : decide (c.Parents[k] < 0) && decide (-(has.length : Int) ≤ c.Parents[k]) with
          | false => rfl
          | true =>
            exfalso
            simp only [Bool.and_eq_true, decide_eq_true_eq] at hq
            refine hd ?_
            simp only [Bool.and_eq_true, decide_eq_true_eq]
            omega
        have hd' : (decide (-(has.length : Int) ≤ c.Parents[k]) && decide (c.Parents[k] ≤ -1)) = false := by simpa using hd
        rw [hd', cond_false, hv, Bool.false_and]
        rfl
def endA (a : Int) (base : Nat) (i : Nat) (cs : List Commit) : Int := bif cs.length == 0 then a else ((base + i + cs.length - 1 : Nat) : Int)
theorem endA_cons (a : Int) (base i : Nat) (c : Commit) (cs : List Commit) : endA a base i (c :: cs) = endA ((base + i : Nat) : Int) base (i + 1) cs := by
  unfold endA
  cases cs with
  | nil => simp
  | cons d cs => simp <;> omega
theorem ist_l1 (hr : RpB r) (hh : has.length ≤ 1048576) (hs : r.Commits.length + sent.length ≤ 1048576) (hc : ∀ c ∈ sent, CB c) (hf : ∀ c ∈ sent, ∀ p ∈ c.Parents, fit64 p) {K : Bool → Int → Int → List Commit → List Head → List Commit → List Head → Option (Repo × Bool)} {hd : List Head} {F : Int → List Commit → Option (Repo × Bool)} (hK : ∀ b a i out j1 j2, K b a i j1 j2 out hd = F a out) : ∀ (k i m : Nat) (a : Int) (out : List Commit) (j1 : List Commit) (j2 : List Head), i + k = sent.length → k < m → out.length = r.Commits.length + i →
    impl_SendTake_l1 r has sent K m false a (i : Int) j1 j2 out hd = bif okS has i (sent.drop i) then F (endA a r.Commits.length i (sent.drop i)) (out ++ sentL has r.Commits.length i (sent.drop i)) else some (r, false)
  | k, i, 0, a, out, j1, j2, _, hm, _ => by omega
  | 0, i, m + 1, a, out, j1, j2, hi, _, ho => by
    obtain rfl : i = sent.length := by omega
    simp only [impl_SendTake_l1, end_of, cond_false, List.drop_length, okS, sentL, cond_true, List.append_nil, hK, endA, List.length_nil, beq_self_eq_true]
  | k + 1, i, m + 1, a, out, j1, j2, hi, hm, ho => by
    have hlt : i < sent.length := by omega
    have hx : sent[i]? = some sent[i] := List.getElem?_eq_getElem hlt
    have hcb := hc _ (List.getElem_mem hlt)
    have hpar := hcb.par
    have hpf := hf _ (List.getElem_mem hlt)
    have l2 := fun K' s t => ist_l2 (K := K') (b := false) (j1 := j1) (j2 := j2) (s := s) (t := t) hr hh (show i ≤ 1048576 by omega) hpar hpf sent[i].Parents.length 0 (sent[i].Parents.length + 1) (by omega) (by omega)
    simp only [impl_SendTake_l1, jn, lt_of hx, gi_of hx, cond_true, Option.bind_some, copyTree_eq hcb.tree, fuel0, w64_ix hlt (show sent.length ≤ maxi by unfold maxi; omega)]
    refine (l2 _ _ _).trans ?_
    rw [List.drop_zero, List.drop_eq_getElem_cons hlt]
    unfold okS sentL
    cases hon : sent[i].Parents.all (onP has i) with
    | false => rfl
    | true =>
      have ih := ist_l1 hr hh hs hc hf hK k (i + 1) m ((r.Commits.length + i : Nat) : Int) (out ++ [toC has r.Commits.length i sent[i]]) j1 j2 (by omega) (by omega) (by simp; omega)
      rw [cond_true, Bool.true_and, ap1 (show out.length ≤ 1048576 by omega), Option.bind_some, endA_cons, show (out.length : Int) = ((r.Commits.length + i : Nat) : Int) by omega]
      refine ih.trans ?_
      rw [List.append_assoc]
      rfl
theorem putH_self (n : Str) (a : Int) : ∀ (hs : List Head), (⟨n, a⟩ : Head) ∈ putH n a false hs
  | [] => by simp [putH]
  | h :: hs => by
    have ih := putH_self n a hs
    unfold putH
    cases hb : Op.bytesLess h.Name n with
    | false => simp
    | true => cases (h.Name != n) <;> simp [ih]
theorem toC_cb (hb : ∀ c ∈ sent, CB c) {c : Commit} (hc : c ∈ sent) (base j : Nat) : CB (toC has base j c) :=
  ⟨by show (c.Parents.map _).length ≤ _; rw [List.length_map]; exact (hb c hc).par, (hb c hc).who, (hb c hc).tree⟩
theorem take_rb (hr : RpB r) (hs : r.Commits.length + sent.length ≤ 1048576) (hc : ∀ c ∈ sent, CB c) : RpB ⟨r.Commits ++ sentL has r.Commits.length 0 sent, r.Heads⟩ :=
  ⟨by simp [sentL_len]; omega, fun x hx => by
    rcases List.mem_append.1 hx with h1 | h1
    · exact hr.com x h1
    · obtain ⟨j, c, hm, rfl⟩ := sentL_mem h1
      exact toC_cb hc hm _ _, hr.heads, hr.head⟩
theorem endA_end (n : Nat) (hn : sent.length = n) (base : Nat) : endA (firstI has) base 0 sent = endAt has base n := by
  subst hn
  unfold endA endAt
  rw [Nat.add_zero]
theorem firstI_eq {K : Int → Option (Repo × Bool)} : (bif decide ((0 : Int) < (has.length : Int)) then ((gi has 0).bind fun u => K u) else K (-1)) = K (firstI has) := by
  unfold firstI
  cases hd : decide ((0 : Int) < (has.length : Int)) with
  | false => rfl
  | true =>
    have h0 : 0 < has.length := by simpa using hd
    have := gi_getI h0
    rw [cond_true, cond_true, show (0 : Int) = ((0 : Nat) : Int) from rfl, this]
    rfl
theorem iSendTake_eq (hr : RpB r) (hh : has.length ≤ 1048576) (hs : r.Commits.length + sent.length ≤ 1048576) (hc : ∀ c ∈ sent, CB c) (hf : ∀ c ∈ sent, ∀ p ∈ c.Parents, fit64 p) {n : Str} (hn : n.length ≤ 1048576) : impl_SendTake r has sent n = some (takeB r has sent n) := by
  unfold impl_SendTake takeB
  rw [RepoOk_eq hr, Option.bind_some]
  cases hok : repoB r with
  | false => rfl
  | true =>
    obtain ⟨s1, s2⟩ := repo_small hok
    have hrb := take_rb (has := has) hr hs hc
    have hhd := hrb.headR (show r.Heads.length ≤ 100000 by omega) hn (endAt has r.Commits.length sent.length)
    have hw : w64 ((sent.length : Int) + (has.length : Int)) = (sent.length : Int) + has.length := w64_id (by omega) (by omega)
    simp only [Bool.not_true, cond_false, cond_true, rOwn_eq hr, Option.bind_some, jn, fuel0, hw]
    by_cases h16 : (16 : Int) < (has.length : Int)
    · have ha : anyB r has = false := by unfold anyB; rw [decide_eq_false (show ¬ (has.length : Int) ≤ 16 by omega), Bool.and_false]
      rw [decide_eq_true h16, ha]
      simp
    rw [decide_eq_false h16, cond_false, are_eq hr (show has.length ≤ 100000 by omega), hok, Option.bind_some, Bool.true_and]
    cases hall : has.all (upB r.Commits.length) with
    | false =>
      have ha : anyB r has = false := by unfold anyB; rw [hall, Bool.false_and]
      rw [ha]
      simp
    | true =>
      have ha : anyB r has = true := by unfold anyB; rw [hall, decide_eq_true (show (has.length : Int) ≤ 16 by omega)]; rfl
      rw [Bool.not_true, cond_false, ha, Bool.true_and]
      cases hz : ((sent.length : Int) + (has.length : Int) == 0) with
      | true =>
        have h0 : (sent.length : Int) + has.length = 0 := by simpa using hz
        have hs0 : sent = [] := List.eq_nil_of_length_eq_zero (by omega)
        have hh0 : has = [] := List.eq_nil_of_length_eq_zero (by omega)
        have hbad : repoB (takeR r has sent n) = false := by
          cases hb : repoB (takeR r has sent n) with
          | false => rfl
          | true =>
            exfalso
            have hm : (⟨n, endAt has r.Commits.length sent.length⟩ : Head) ∈ (takeR r has sent n).Heads := putH_self n _ r.Heads
            have := (head_at hb hm).1
            rw [hs0, hh0] at this
            exact absurd this (by show ¬ (0 : Int) ≤ -1; decide)
        rw [hbad, Bool.and_false]
        rfl
      | false =>
        have key := ist_l1 (hd := r.Heads) hr hh hs hc hf (K := fun _ y80 _ _ _ y93 y96 =>
            (impl_Repo_point (Repo.mk y93 y96) n y80).bind fun z610 => (impl_Repo_tried r (Repo.mk z610.Commits z610.Heads)).bind fun z622 => some (Repo.mk z622.1.Commits z622.1.Heads, z622.2)) (F := fun a out => (impl_Repo_point (Repo.mk out r.Heads) n a).bind fun z610 => (impl_Repo_tried r (Repo.mk z610.Commits z610.Heads)).bind fun z622 => some (Repo.mk z622.1.Commits z622.1.Heads, z622.2)) (fun _ _ _ _ _ _ => rfl) sent.length 0 (sent.length + 1) (firstI has) r.Commits [] [] (by omega) (by omega) (by omega)
        rw [cond_false, firstI_eq]
        refine key.trans ?_
        rw [List.drop_zero, endA_end _ rfl]
        cases okS has 0 sent with
        | false => rfl
        | true =>
          rw [cond_true, Bool.true_and, point_any hrb (show List.Pairwise _ r.Heads from heads_asc hok), Option.bind_some, show ∀ x : Repo, (⟨x.Commits, x.Heads⟩ : Repo) = x from fun _ => rfl, tried_eq hr hhd, Option.bind_some]
          unfold takeR
          cases repoB (headR ⟨r.Commits ++ sentL has r.Commits.length 0 sent, r.Heads⟩ n (endAt has r.Commits.length sent.length)) <;> rfl
end
end Go.Vm
namespace Go.Vm
open Go Go.Sx
set_option linter.unusedSimpArgs false
set_option linter.unusedVariables false
def placeB (l : List Int) (n : Int) : Int := bif hasB l n then plI l n else -1
theorem placeB_in {l : List Int} {n : Int} (h : n ∈ l) : placeB l n = plI l n := by unfold placeB; rw [hasB_iff.2 h]; rfl
theorem place_drop {l : List Int} {n : Int} {i : Nat} (hi : i < l.length) : (bif hasB (l.drop i) n then ((i + (l.drop i).idxOf n : Nat) : Int) else -1) = bif l[i] == n then (i : Int) else (bif hasB (l.drop (i + 1)) n then ((i + 1 + (l.drop (i + 1)).idxOf n : Nat) : Int) else -1) := by
  rw [List.drop_eq_getElem_cons hi, List.idxOf_cons]
  unfold hasB
  rw [List.any_cons]
  cases l[i] == n with
  | true => simp
  | false =>
    simp only [Bool.false_or, cond_false]
    congr 1
    omega
theorem place_l1 {l : List Int} (hl : l.length ≤ 1000000) {n : Int} : ∀ (k i m : Nat), i + k = l.length → k < m →
    spec_l14Place_l1 l n (fun _ _ => some (-1)) m 0 (i : Int) = some (bif hasB (l.drop i) n then ((i + (l.drop i).idxOf n : Nat) : Int) else -1)
  | k, i, 0, _, hm => by omega
  | 0, i, m + 1, hi, _ => by
    obtain rfl : i = l.length := by omega
    simp only [spec_l14Place_l1, end_of, cond_false, List.drop_length]
    rfl
  | k + 1, i, m + 1, hi, hm => by
    have hlt : i < l.length := by omega
    have hx : l[i]? = some l[i] := List.getElem?_eq_getElem hlt
    simp only [spec_l14Place_l1, lt_of hx, gi_of hx, cond_true, Option.bind_some, w64_ix hlt (show l.length ≤ maxi by unfold maxi; omega)]
    rw [place_drop hlt, place_l1 hl k (i + 1) m (by omega) (by omega)]
    cases l[i] == n <;> rfl
theorem sPlace_eq {l : List Int} (hl : l.length ≤ 1000000) (n : Int) : spec_l14Place l n = some (placeB l n) := by
  unfold spec_l14Place
  simp only [jn, fuel0]
  have e := place_l1 hl (n := n) l.length 0 (l.length + 1) (by omega) (by omega)
  refine e.trans ?_
  unfold placeB plI
  simp
theorem half_self (f : Int → Int) (P : List Int) : half f P 0 = P := by simp [half]
theorem skeep_l2 {l : List Int} (hl : l.length ≤ 1000000) {P : List Int} (hP : P.length ≤ 1000000) {K : Int → List Int → Option Repo} : ∀ (j k m : Nat), k + j = P.length → j < m →
    spec_KeepOnly_l2 l K m (k : Int) (half (placeB l) P k) = K (P.length : Int) (P.map (placeB l))
  | j, k, 0, _, hm => by omega
  | 0, k, m + 1, hk, _ => by
    obtain rfl : k = P.length := by omega
    rw [half_end]
    simp only [spec_KeepOnly_l2, show (P.length : Int) = ((P.map (placeB l)).length : Int) by rw [List.length_map], end_of, cond_false]
  | j + 1, k, m + 1, hk, hm => by
    have hlt : k < P.length := by omega
    have hx : (half (placeB l) P k)[k]? = some P[k] := half_at hlt
    simp only [spec_KeepOnly_l2, lt_of hx, gi_of hx, cond_true, Option.bind_some, sPlace_eq hl, siM_of (show k < (half (placeB l) P k).length by rw [half_len]; exact hlt), half_set hlt, w64_ix hlt (show P.length ≤ maxi by unfold maxi; omega)]
    exact skeep_l2 hl hP j (k + 1) m (by omega) (by omega)
theorem place_pars {r : Repo} (hr : repoB r = true) {x : Int} (hx : x ∈ liveL r) : (parsAt r x.toNat).map (placeB (liveL r)) = (parsAt r x.toNat).map (plI (liveL r)) :=
  List.map_congr_left fun p hp => placeB_in (live_par hr hx hp)
theorem sKeepOnly_eq {r : Repo} (h : RpB r) : spec_KeepOnly r = some (bif repoB r then keepR r else zeroR) := by
  unfold spec_KeepOnly
  rw [l7Ok_eq h, Option.bind_some]
  cases hr : repoB r with
  | false => rfl
  | true =>
    have hs := repo_small hr
    have hle := liveL_len r
    rw [Bool.not_true, cond_false, cond_true, l14Live_eq hr, Option.bind_some]
    simp only [jn, fuel0]
    rw [loop_filter (xs := liveL r) (p := fun _ => true) (g := fun i => renC (liveL r) (r.Commits.getD i.toNat noCommit)) (Z := fun acc => spec_KeepOnly_l3 r (liveL r) (fun _ y342 y345 => some (Vm.Repo.mk y342 y345)) (r.Heads.length + 1) 0 acc []) (f := fun m acc i => spec_KeepOnly_l1 r (liveL r) _ m i acc []) (fun m i x acc hx ha => by
      have hxm := List.mem_of_getElem? hx
      have hrg := live_range hr hxm
      have hc : CB (r.Commits.getD x.toNat noCommit) := by
        have hg : r.Commits[x.toNat]? = some (r.Commits[x.toNat]'(by omega)) := List.getElem?_eq_getElem _
        rw [getC_of hg]
        exact h.cat hg
      have hps := pars_small hr (i := x.toNat) (by omega)
      unfold parsAt at hps
      have hix := ix_of hx
      simp only [spec_KeepOnly_l1, jn, lt_of hx, gi_of hx, cond_true, Option.bind_some, com_atI hrg.1 hrg.2, l7CopyCommit_eq hc, fuel0]
      have e := skeep_l2 (l := liveL r) (by omega) (P := (r.Commits.getD x.toNat noCommit).Parents) (by omega) (K := fun (_ : Int) (y255 : List Int) => (apM acc [Vm.Commit.mk y255 (r.Commits.getD x.toNat noCommit).Who (r.Commits.getD x.toNat noCommit).Tree]).bind fun q321 => spec_KeepOnly_l1 r (liveL r) (fun (_ : Int) (y40 : List Vm.Commit) (y43 : List Vm.Head) => spec_KeepOnly_l3 r (liveL r) (fun _ y342 y345 => some (Vm.Repo.mk y342 y345)) (r.Heads.length + 1) 0 y40 y43) m (w64 ((i : Int) + 1)) q321 []) (r.Commits.getD x.toNat noCommit).Parents.length 0 ((r.Commits.getD x.toNat noCommit).Parents.length + 1) (by omega) (by omega)
      rw [half_self] at e
      refine e.trans ?_
      rw [show (r.Commits.getD x.toNat noCommit).Parents.map (placeB (liveL r)) = (r.Commits.getD x.toNat noCommit).Parents.map (plI (liveL r)) from place_pars hr hxm]
      rw [ap1 (show acc.length ≤ 1048576 by omega), Option.bind_some, w64_ix hix (show (liveL r).length ≤ maxi by unfold maxi; omega)]
      rfl) (fun m acc => by simp only [spec_KeepOnly_l1, end_of, cond_false]) (by omega)]
    rw [List.filter_eq_self.2 (fun _ _ => rfl)]
    show spec_KeepOnly_l3 r (liveL r) _ (r.Heads.length + 1) 0 (keepR r).Commits [] = _
    rw [loop_filter (xs := r.Heads) (p := fun _ => true) (g := renH (liveL r)) (Z := fun acc => some (Repo.mk (keepR r).Commits acc)) (f := fun m acc i => spec_KeepOnly_l3 r (liveL r) _ m i (keepR r).Commits acc) (fun m i x acc hx ha => by
      have hix := ix_of hx
      simp only [spec_KeepOnly_l3, lt_of hx, gi_of hx, cond_true, Option.bind_some, sPlace_eq (show (liveL r).length ≤ 1000000 by omega), placeB_in (live_head hr (List.mem_of_getElem? hx)), ap1 (show acc.length ≤ 1048576 by omega), w64_ix hix (show r.Heads.length ≤ maxi by unfold maxi; omega)]
      rfl) (fun m acc => by simp only [spec_KeepOnly_l3, end_of, cond_false]) (by omega)]
    rw [List.filter_eq_self.2 (fun _ _ => rfl)]
    rfl
theorem ikeep_l2 {num : List Int} {f : Int → Int} {c : Commit} (hp : ∀ p ∈ c.Parents, gi num p = some (f p)) (hl : c.Parents.length ≤ 1000) {w : Str} {t : List File} {K : Int → List Int → Str → List File → Option Repo} :
    impl_KeepOnly_l2 num c K (c.Parents.length + 1) 0 [] w t = K (c.Parents.length : Int) (c.Parents.map f) w t := by
  have e := loop_filter (xs := c.Parents) (p := fun _ => true) (g := f) (Z := fun acc => K (c.Parents.length : Int) acc w t) (f := fun m acc i => impl_KeepOnly_l2 num c K m i acc w t) (fun m i x acc hx ha => by
    have hix := ix_of hx
    simp only [impl_KeepOnly_l2, lt_of hx, gi_of hx, cond_true, Option.bind_some, hp x (List.mem_of_getElem? hx), ap1 (show acc.length ≤ 1048576 by omega), w64_ix hix (show c.Parents.length ≤ maxi by unfold maxi; omega)]) (fun m acc => by simp only [impl_KeepOnly_l2, end_of, cond_false]) (m := c.Parents.length + 1) (by omega)
  rw [List.filter_eq_self.2 (fun _ _ => rfl)] at e
  exact e
theorem gi_getN {d : List Int} {p : Int} (h0 : 0 ≤ p) (h : p.toNat < d.length) : gi d p = some (d.getD p.toNat 0) := by
  have := gi_getI (l := d) h
  rwa [show ((p.toNat : Nat) : Int) = p by omega] at this
def NumT (r : Repo) (i : Nat) (num : List Int) : Prop := num.length = r.Commits.length ∧ ∀ j (hj : j < (liveL r).length), j < i → num.getD ((liveL r)[j]).toNat 0 = (j : Int)
theorem numT_set {r : Repo} (hr : repoB r = true) {i : Nat} (hi : i < (liveL r).length) {num : List Int} (h : NumT r i num) : NumT r (i + 1) (num.set ((liveL r)[i]).toNat (i : Int)) := by
  have hri := live_range hr (List.getElem_mem hi)
  refine ⟨by rw [List.length_set]; exact h.1, fun j hj hji => ?_⟩
  have hrj := live_range hr (List.getElem_mem hj)
  rw [List.getD_eq_getElem?_getD]
  rcases Nat.lt_or_ge j i with q | q
  · have hlt := List.pairwise_iff_getElem.1 (liveL_asc r) j i hj hi q
    rw [List.getElem?_set_ne (by omega), ← List.getD_eq_getElem?_getD]
    exact h.2 j hj q
  · obtain rfl : j = i := by omega
    rw [List.getElem?_set_self (by rw [h.1]; omega)]
    rfl
theorem ikeep_l1 {r : Repo} (h : RpB r) (hr : repoB r = true) {K : Int → List Commit → List Head → List Int → Option Repo} : ∀ (k i m : Nat) (num : List Int), i + k = (liveL r).length → k < m → NumT r i num →
    ∃ num', NumT r (liveL r).length num' ∧ impl_KeepOnly_l1 r (liveL r) K m (i : Int) (((liveL r).take i).map fun i => renC (liveL r) (r.Commits.getD i.toNat noCommit)) [] num = K ((liveL r).length : Int) ((liveL r).map fun i => renC (liveL r) (r.Commits.getD i.toNat noCommit)) [] num'
  | k, i, 0, num, _, hm, _ => by omega
  | 0, i, m + 1, num, hi, _, hN => by
    obtain rfl : i = (liveL r).length := by omega
    refine ⟨num, hN, ?_⟩
    simp only [impl_KeepOnly_l1, end_of, cond_false, List.take_length]
  | k + 1, i, m + 1, num, hi, hm, hN => by
    have hs := repo_small hr
    have hle := liveL_len r
    have hlt : i < (liveL r).length := by omega
    have hx : (liveL r)[i]? = some (liveL r)[i] := List.getElem?_eq_getElem hlt
    have hxm := List.getElem_mem hlt
    have hrg := live_range hr hxm
    have hN1 := numT_set hr hlt hN
    have hg : r.Commits[(liveL r)[i].toNat]? = some (r.Commits[(liveL r)[i].toNat]'(by omega)) := List.getElem?_eq_getElem _
    have hc : CB (r.Commits.getD (liveL r)[i].toNat noCommit) := by rw [getC_of hg]; exact h.cat hg
    have hps := pars_small hr (i := (liveL r)[i].toNat) (by omega)
    unfold parsAt at hps
    have e1 : siM num (liveL r)[i] (i : Int) = some (num.set ((liveL r)[i]).toNat (i : Int)) := by
      have := siM_of (xs := num) (i := (liveL r)[i].toNat) (by rw [hN.1]; omega) (i : Int)
      rwa [show (((liveL r)[i].toNat : Nat) : Int) = (liveL r)[i] by omega] at this
    have el : (((liveL r).take i).map fun i => renC (liveL r) (r.Commits.getD i.toNat noCommit)).length = i := by rw [List.length_map, List.length_take]; omega
    have hpar : ∀ p ∈ (r.Commits.getD (liveL r)[i].toNat noCommit).Parents, gi (num.set ((liveL r)[i]).toNat (i : Int)) p = some (plI (liveL r) p) := fun p hp => by
      have hpl := live_par hr hxm (p := p) hp
      have hpr := live_range hr hpl
      have hlt2 := plI_lt (liveL_asc r) hpl hxm (by have := hps.2 p hp; omega)
      rw [plI_at (liveL_asc r) hlt] at hlt2
      obtain ⟨q0, q1, q2, q3⟩ := plI_mem hpl
      rw [gi_getN hpr.1 (by rw [hN1.1]; omega)]
      have := hN1.2 _ q2 (by omega)
      rw [q3] at this
      rw [this]
      rfl
    have et : impl_Repo_tree r (liveL r)[i] = some (r.Commits.getD (liveL r)[i].toNat noCommit).Tree := by
      unfold impl_Repo_tree
      rw [decide_eq_false (by omega), cond_false, com_atI hrg.1 hrg.2, Option.bind_some]
    simp only [impl_KeepOnly_l1, jn, lt_of hx, gi_of hx, cond_true, Option.bind_some, gi_getN hrg.1 (show (liveL r)[i].toNat < num.length by rw [hN.1]; omega), el, e1, com_atI hrg.1 hrg.2, et, copyTree_eq hc.tree, fuel0]
    rw [ikeep_l2 hpar (by omega), ap1 (by rw [el]; omega), Option.bind_some, w64_ix hlt (show (liveL r).length ≤ maxi by unfold maxi; omega)]
    obtain ⟨num', n1, n2⟩ := ikeep_l1 (K := K) h hr k (i + 1) m _ (by omega) (by omega) hN1
    refine ⟨num', n1, ?_⟩
    rw [← n2, List.take_succ_eq_append_getElem hlt, List.map_append]
    rfl
theorem iKeepOnly_eq {r : Repo} (h : RpB r) : impl_KeepOnly r = some (bif repoB r then keepR r else zeroR) := by
  unfold impl_KeepOnly
  rw [RepoOk_eq h, Option.bind_some]
  cases hr : repoB r with
  | false => rfl
  | true =>
    have hs := repo_small hr
    have hle := liveL_len r
    rw [Bool.not_true, cond_false, cond_true, mkM_of (by simp [lim]; omega), Option.bind_some, iLive_eq hr, Option.bind_some, listOf_eq (by rw [liveM_len]; omega), Option.bind_some]
    simp only [jn, fuel0]
    show impl_KeepOnly_l1 r (liveL r) _ ((liveL r).length + 1) 0 [] [] _ = _
    obtain ⟨num, n1, n2⟩ := ikeep_l1 h hr (K := fun (_ : Int) (y54 : List Vm.Commit) (y57 : List Vm.Head) (y61 : List Int) => impl_KeepOnly_l3 r y61 (fun _ y479 y482 => some (Vm.Repo.mk y479 y482)) (r.Heads.length + 1) 0 y54 y57) (liveL r).length 0 ((liveL r).length + 1) (List.replicate r.Commits.length 0) (by omega) (by omega) ⟨by simp, fun j _ hj => by omega⟩
    refine n2.trans ?_
    show impl_KeepOnly_l3 r num _ (r.Heads.length + 1) 0 (keepR r).Commits [] = _
    rw [loop_filter (xs := r.Heads) (p := fun _ => true) (g := renH (liveL r)) (Z := fun acc => some (Repo.mk (keepR r).Commits acc)) (f := fun m acc i => impl_KeepOnly_l3 r num _ m i (keepR r).Commits acc) (fun m i x acc hx ha => by
      have hix := ix_of hx
      have hl := live_head hr (List.mem_of_getElem? hx)
      have hrg := live_range hr hl
      obtain ⟨q0, q1, q2, q3⟩ := plI_mem hl
      have e := n1.2 _ q2 q2
      rw [q3] at e
      have e2 : gi num x.At = some (plI (liveL r) x.At) := by
        rw [gi_getN hrg.1 (by rw [n1.1]; omega), e]
        rfl
      simp only [impl_KeepOnly_l3, lt_of hx, gi_of hx, cond_true, Option.bind_some, e2, ap1 (show acc.length ≤ 1048576 by omega), w64_ix hix (show r.Heads.length ≤ maxi by unfold maxi; omega)]
      rfl) (fun m acc => by simp only [impl_KeepOnly_l3, end_of, cond_false]) (by omega)]
    rw [List.filter_eq_self.2 (fun _ _ => rfl)]
    rfl
theorem drawKeepOnly_eq {code : List Byte} (h : code.length ≤ 1048576) : ∃ x, spec_DrawKeepOnly code = some x ∧ Drawn x := by
  unfold spec_DrawKeepOnly
  obtain ⟨b, e, hr⟩ := open0 h
  obtain ⟨x, q, e2, hx⟩ := loose_eq hr (by omega)
  rw [e, Option.bind_some, e2, Option.bind_some]
  exact ⟨x, rfl, hx⟩
theorem keepR_rb {r : Repo} (h : RpB r) (hr : repoB r = true) : RpB (keepR r) := by
  have hs := repo_small hr
  have hle := liveL_len r
  refine ⟨by rw [keepR_len]; omega, fun c hc => ?_, by show (r.Heads.map _).length ≤ _; rw [List.length_map]; omega, fun x hx => ?_⟩
  · obtain ⟨i, hi, rfl⟩ := List.mem_map.1 hc
    have hrg := live_range hr hi
    have hg : r.Commits[i.toNat]? = some (r.Commits[i.toNat]'(by omega)) := List.getElem?_eq_getElem _
    have hc : CB (r.Commits.getD i.toNat noCommit) := by rw [getC_of hg]; exact h.cat hg
    exact ⟨by simp only [renC, List.length_map]; exact hc.par, hc.who, hc.tree⟩
  · obtain ⟨y, hy, rfl⟩ := List.mem_map.1 hx
    exact h.head y hy
end Go.Vm
namespace Go.Vm
open Go Go.Sx
set_option linter.unusedSimpArgs false
set_option linter.unusedVariables false
theorem anyB_up {r : Repo} {good : List Int} (h : anyB r good = true) : (∀ g ∈ good, upB r.Commits.length g = true) ∧ good.length ≤ 16 := by
  unfold anyB at h
  simp only [Bool.and_eq_true, List.all_eq_true, decide_eq_true_eq] at h
  exact ⟨h.1, by omega⟩
section
variable {r : l30Rd} {p : Int}
end
end Go.Vm
namespace Go.Vm
open Go Go.Sx
set_option linter.unusedSimpArgs false
set_option linter.unusedVariables false
set_option linter.unusedSectionVars false
def sendP (has list : List Int) (p : Int) : Int := bif hasB list p then plI list p else -1 - plI has p
def sendOk (has list : List Int) (p : Int) : Bool := hasB list p || hasB has p
def sendC (has list : List Int) (c : Commit) : Commit := ⟨c.Parents.map (sendP has list), c.Who, c.Tree⟩
def sendAll (r : Repo) (has list : List Int) (x : Int) : Bool := (parsAt r x.toNat).all (sendOk has list)
def sendL (r : Repo) (has list : List Int) : List Commit := list.map fun i => sendC has list (r.Commits.getD i.toNat noCommit)
def suspB (r : Repo) (has : List Int) (a : Int) : Bool := repoB r && (anyB r has && upB r.Commits.length a)
def sendB (r : Repo) (has : List Int) (a : Int) : List Commit × Bool :=
  bif suspB r has a then (bif (leftL r has a).all (sendAll r has (leftL r has a)) then (sendL r has (leftL r has a), true) else ([], false)) else ([], false)
theorem placeB_lt {l : List Int} {n : Int} : decide (placeB l n < 0) = !hasB l n := by
  unfold placeB
  cases h : hasB l n with
  | true =>
    have := (plI_mem (hasB_iff.1 h)).1
    rw [cond_true, decide_eq_false (by omega)]
    rfl
  | false => rfl
theorem placeB_rng {l : List Int} {n : Int} : -1 ≤ placeB l n ∧ placeB l n < (l.length : Int) := by
  unfold placeB
  cases h : hasB l n with
  | true =>
    have := plI_mem (hasB_iff.1 h)
    rw [cond_true]
    omega
  | false => rw [cond_false]; omega
theorem indexI_l1 {l : List Int} (hl : l.length ≤ 1000000) {n : Int} : ∀ (k i m : Nat), i + k = l.length → k < m →
    slices_Index_int_int_l1 l n (fun _ _ => some (-1)) m 0 (i : Int) = some (bif hasB (l.drop i) n then ((i + (l.drop i).idxOf n : Nat) : Int) else -1)
  | k, i, 0, _, hm => by omega
  | 0, i, m + 1, hi, _ => by
    obtain rfl : i = l.length := by omega
    simp only [slices_Index_int_int_l1, end_of, cond_false, List.drop_length]
    rfl
  | k + 1, i, m + 1, hi, hm => by
    have hlt : i < l.length := by omega
    have hx : l[i]? = some l[i] := List.getElem?_eq_getElem hlt
    simp only [slices_Index_int_int_l1, lt_of hx, gi_of hx, cond_true, Option.bind_some, w64_ix hlt (show l.length ≤ maxi by unfold maxi; omega)]
    rw [place_drop hlt, indexI_l1 hl k (i + 1) m (by omega) (by omega), show (n == l[i]) = (l[i] == n) from bool_ext (by simp only [beq_iff_eq]; exact ⟨Eq.symm, Eq.symm⟩)]
    cases l[i] == n <;> rfl
theorem indexI_eq {l : List Int} (hl : l.length ≤ 1000000) (n : Int) : slices_Index_int_int l n = some (placeB l n) := by
  unfold slices_Index_int_int
  simp only [jn, fuel0]
  have e := indexI_l1 hl (n := n) l.length 0 (l.length + 1) (by omega) (by omega)
  refine e.trans ?_
  unfold placeB plI
  simp
section
variable {has list : List Int} (hh : has.length ≤ 1000000) (hl : list.length ≤ 1000000)
include hh hl
theorem isend_l2 {c : Commit} (hP : c.Parents.length ≤ 1000000) {K : List Commit → Bool → Int → List Int → Str → List File → Option (List Commit × Bool)} {y : List Commit} {b : Bool} {w : Str} {t : List File} : ∀ (j k m : Nat), k + j = c.Parents.length → j < m →
    impl_SendOf_l2 has list c K m y b (k : Int) ((c.Parents.take k).map (sendP has list)) w t = bif (c.Parents.drop k).all (sendOk has list) then K y b (c.Parents.length : Int) (c.Parents.map (sendP has list)) w t else some ([], false)
  | j, k, 0, _, hm => by omega
  | 0, k, m + 1, hk, _ => by
    obtain rfl : k = c.Parents.length := by omega
    rw [List.take_length, List.drop_length]
    simp only [impl_SendOf_l2, end_of, cond_false, List.all_nil, cond_true]
  | j + 1, k, m + 1, hk, hm => by
    have hlt : k < c.Parents.length := by omega
    have hx : c.Parents[k]? = some c.Parents[k] := List.getElem?_eq_getElem hlt
    have ih := isend_l2 hP (K := K) (y := y) (b := b) (w := w) (t := t) j (k + 1) m (by omega) (by omega)
    rw [List.take_succ_eq_append_getElem hlt, List.map_append] at ih
    have el : ((c.Parents.take k).map (sendP has list)).length ≤ 1048576 := by rw [List.length_map, List.length_take]; omega
    simp only [impl_SendOf_l2, jn, lt_of hx, gi_of hx, cond_true, Option.bind_some, indexI_eq hl, indexI_eq hh, w64_ix hlt (show c.Parents.length ≤ maxi by unfold maxi; omega), ap1 el]
    rw [List.drop_eq_getElem_cons hlt, List.all_cons]
    have dl : ∀ l : List Int, decide ((0 : Int) ≤ placeB l c.Parents[k]) = hasB l c.Parents[k] := fun l => by
      have := placeB_lt (l := l) (n := c.Parents[k])
      cases hb : hasB l c.Parents[k] with
      | true => rw [hb] at this; simp only [Bool.not_true, decide_eq_false_iff_not] at this; exact decide_eq_true (by omega)
      | false => rw [hb] at this; simp only [Bool.not_false, decide_eq_true_eq] at this; exact decide_eq_false (by omega)
    rw [dl list, dl has]
    cases h1 : hasB list c.Parents[k] with
    | true =>
      have e1 : placeB list c.Parents[k] = sendP has list c.Parents[k] := by unfold placeB sendP; rw [h1]; rfl
      have e2 : sendOk has list c.Parents[k] = true := by unfold sendOk; rw [h1]; rfl
      simp only [cond_true, e1, e2, Bool.true_and]
      exact ih
    | false =>
      cases h2 : hasB has c.Parents[k] with
      | false =>
        have e2 : sendOk has list c.Parents[k] = false := by unfold sendOk; rw [h1, h2]; rfl
        simp only [e2, Bool.false_and, cond_false]
      | true =>
        have e2 : sendOk has list c.Parents[k] = true := by unfold sendOk; rw [h1, h2]; rfl
        have e1 : -1 - placeB has c.Parents[k] = sendP has list c.Parents[k] := by unfold placeB sendP; rw [h1, h2]; rfl
        have hr := placeB_rng (l := has) (n := c.Parents[k])
        simp only [cond_true, cond_false, e2, Bool.true_and]
        rw [w64_id (by omega) (by omega), e1]
        exact ih
variable {r : Repo} (h : RpB r) (hr : repoB r = true) (hg : ∀ x ∈ list, 0 ≤ x ∧ x ≤ (r.Commits.length : Int) - 1)
include h hr hg
theorem com_cb {x : Int} (hx : x ∈ list) : CB (r.Commits.getD x.toNat noCommit) ∧ (r.Commits.getD x.toNat noCommit).Parents.length ≤ 2 := by
  have hrg := hg x hx
  have hgx : r.Commits[x.toNat]? = some (r.Commits[x.toNat]'(by omega)) := List.getElem?_eq_getElem _
  have hps := pars_small hr (i := x.toNat) (by omega)
  unfold parsAt at hps
  exact ⟨by rw [getC_of hgx]; exact h.cat hgx, hps.1⟩
theorem isend_l1 {K : List Commit → Bool → List Commit → Int → Option (List Commit × Bool)} : ∀ (j k m : Nat), k + j = list.length → j < m →
    impl_SendOf_l1 r has list K m [] false ((list.take k).map fun i => sendC has list (r.Commits.getD i.toNat noCommit)) (k : Int) = bif (list.drop k).all (sendAll r has list) then K [] false (sendL r has list) (list.length : Int) else some ([], false)
  | j, k, 0, _, hm => by omega
  | 0, k, m + 1, hk, _ => by
    obtain rfl : k = list.length := by omega
    rw [List.take_length, List.drop_length]
    simp only [impl_SendOf_l1, end_of, cond_false, List.all_nil, cond_true]
    rfl
  | j + 1, k, m + 1, hk, hm => by
    have hlt : k < list.length := by omega
    have hx : list[k]? = some list[k] := List.getElem?_eq_getElem hlt
    have hxm := List.getElem_mem hlt
    have hrg := hg _ hxm
    obtain ⟨hc, hp2⟩ := com_cb hh hl h hr hg hxm
    have ih := isend_l1 (K := K) j (k + 1) m (by omega) (by omega)
    rw [List.take_succ_eq_append_getElem hlt, List.map_append] at ih
    have el : ((list.take k).map fun i => sendC has list (r.Commits.getD i.toNat noCommit)).length ≤ 1048576 := by rw [List.length_map, List.length_take]; omega
    have et : impl_Repo_tree r list[k] = some (r.Commits.getD list[k].toNat noCommit).Tree := by
      unfold impl_Repo_tree
      rw [decide_eq_false (by omega), cond_false, com_atI hrg.1 hrg.2, Option.bind_some]
    simp only [impl_SendOf_l1, jn, lt_of hx, gi_of hx, cond_true, Option.bind_some, com_atI hrg.1 hrg.2, et, copyTree_eq hc.tree, fuel0]
    have e := isend_l2 hh hl (c := r.Commits.getD list[k].toNat noCommit) (by omega) (y := []) (b := false) (w := (r.Commits.getD list[k].toNat noCommit).Who) (t := (r.Commits.getD list[k].toNat noCommit).Tree) (K := fun (y217 : List Vm.Commit) (y220 : Bool) (y224 : Int) (y225 : List Int) (y228 : Str) (y229 : List Vm.File) =>
        (apM ((list.take k).map fun i => sendC has list (r.Commits.getD i.toNat noCommit)) [Vm.Commit.mk y225 y228 y229]).bind fun q357 =>
        impl_SendOf_l1 r has list K m y217 y220 q357 (w64 ((k : Int) + 1))) (r.Commits.getD list[k].toNat noCommit).Parents.length 0 ((r.Commits.getD list[k].toNat noCommit).Parents.length + 1) (by omega) (by omega)
    refine e.trans ?_
    rw [List.drop_eq_getElem_cons hlt, List.all_cons, List.drop_zero]
    have ea : (r.Commits.getD list[k].toNat noCommit).Parents.all (sendOk has list) = sendAll r has list list[k] := rfl
    rw [ea]
    cases sendAll r has list list[k] with
    | false => rfl
    | true =>
      rw [cond_true, Bool.true_and, ap1 el, Option.bind_some, w64_ix hlt (show list.length ≤ maxi by unfold maxi; omega)]
      exact ih
end
theorem susp_eq {r : Repo} (h : RpB r) {has : List Int} (hl : has.length ≤ 1000) (a : Int) : impl_Repo_areSuspect r has a = some (suspB r has a) := by
  unfold impl_Repo_areSuspect suspB anyB
  simp only [jn, are_eq h (show has.length ≤ 100000 by omega), exists_eq h, Option.bind_some]
  cases repoB r with
  | false => rfl
  | true =>
    cases has.all (upB r.Commits.length) with
    | false => rfl
    | true =>
      cases decide ((has.length : Int) ≤ 16) <;> rfl
theorem susp_facts {r : Repo} {has : List Int} {a : Int} (h : suspB r has a = true) : repoB r = true ∧ upB r.Commits.length a = true ∧ anyB r has = true ∧ (∀ g ∈ has, upB r.Commits.length g = true) ∧ has.length ≤ 16 := by
  unfold suspB at h
  simp only [Bool.and_eq_true] at h
  obtain ⟨h1, h2, h3⟩ := h
  exact ⟨h1, h3, h2, (anyB_up h2).1, (anyB_up h2).2⟩
theorem leftL_rng {r : Repo} {has : List Int} {a x : Int} (hx : x ∈ leftL r has a) : 0 ≤ x ∧ x ≤ (r.Commits.length : Int) - 1 := allA_mem (leftL_mem.1 hx).1
theorem iSendOf_eq {r : Repo} (h : RpB r) {has : List Int} (hl : has.length ≤ 1000) (a : Int) : impl_SendOf r has a = some (sendB r has a) := by
  unfold impl_SendOf sendB
  rw [susp_eq h hl, Option.bind_some]
  cases hs : suspB r has a with
  | false => rfl
  | true =>
    obtain ⟨h1, h2, h3, h4, h5⟩ := susp_facts hs
    have hle := leftL_len r has a
    have hsm := (repo_small h1).1
    rw [Bool.not_true, cond_false, cond_true, iSince_eq h1 h2 (by omega) h4, Option.bind_some]
    simp only [jn, fuel0]
    have e := isend_l1 (has := has) (list := leftL r has a) (by omega) (by omega) h h1 (fun x hx => leftL_rng hx) (K := fun _ _ y26 _ => some (y26, true)) (leftL r has a).length 0 ((leftL r has a).length + 1) (by omega) (by omega)
    refine e.trans ?_
    rw [List.drop_zero]
    cases (leftL r has a).all (sendAll r has (leftL r has a)) <;> rfl
theorem sendB_some {r : Repo} {has : List Int} {a : Int} (h : (sendB r has a).2 = true) : suspB r has a = true ∧ (leftL r has a).all (sendAll r has (leftL r has a)) = true ∧ (sendB r has a).1 = sendL r has (leftL r has a) := by
  unfold sendB at h ⊢
  cases hs : suspB r has a with
  | false => rw [hs] at h; cases h
  | true =>
    rw [hs, cond_true] at h
    cases ha : (leftL r has a).all (sendAll r has (leftL r has a)) with
    | false => rw [ha] at h; cases h
    | true => exact ⟨rfl, rfl, rfl⟩
theorem sendB_none {r : Repo} {has : List Int} {a : Int} (h : (sendB r has a).2 = false) : (sendB r has a).1 = [] := by
  unfold sendB at h ⊢
  cases hs : suspB r has a with
  | false => rfl
  | true =>
    rw [hs, cond_true] at h
    cases ha : (leftL r has a).all (sendAll r has (leftL r has a)) with
    | false => rfl
    | true => rw [ha] at h; cases h
theorem sendC_cb {c : Commit} (h : CB c) (has list : List Int) : CB (sendC has list c) := ⟨by simp only [sendC, List.length_map]; exact h.par, h.who, h.tree⟩
theorem sendB_cb {r : Repo} (h : RpB r) (has : List Int) (a : Int) : ∀ c ∈ (sendB r has a).1, CB c := fun c hc => by
  cases h2 : (sendB r has a).2 with
  | false => rw [sendB_none h2] at hc; simp at hc
  | true =>
    obtain ⟨h3, _, h4⟩ := sendB_some h2
    rw [h4] at hc
    obtain ⟨x, hx, rfl⟩ := List.mem_map.1 hc
    have hrg := leftL_rng hx
    have hgx : r.Commits[x.toNat]? = some (r.Commits[x.toNat]'(by omega)) := List.getElem?_eq_getElem _
    exact sendC_cb (by rw [getC_of hgx]; exact h.cat hgx) _ _
theorem sendB_len {r : Repo} (has : List Int) (a : Int) : (sendB r has a).1.length ≤ r.Commits.length := by
  cases h2 : (sendB r has a).2 with
  | false => rw [sendB_none h2]; simp
  | true =>
    obtain ⟨h3, _, h4⟩ := sendB_some h2
    rw [h4]
    unfold sendL
    rw [List.length_map]
    exact leftL_len r has a
end Go.Vm
namespace Go.Vm
open Go Go.Sx
set_option linter.unusedSimpArgs false
set_option linter.unusedVariables false
theorem nd_pl {l : List Int} (h : l.Nodup) {i : Nat} (hi : i < l.length) : plI l l[i] = (i : Int) := by
  unfold plI
  rw [h.idxOf_getElem i hi]
theorem nd_inj {l : List Int} {a b : Int} (ha : a ∈ l) (hb : b ∈ l) (e : plI l a = plI l b) : a = b := by
  obtain ⟨_, _, h1, e1⟩ := plI_mem ha
  obtain ⟨_, _, h2, e2⟩ := plI_mem hb
  have q1 : l[(plI l a).toNat]? = some a := by rw [List.getElem?_eq_getElem h1, e1]
  have q2 : l[(plI l b).toNat]? = some b := by rw [List.getElem?_eq_getElem h2, e2]
  rw [e, q2] at q1
  exact (Option.some.inj q1).symm
structure Top (r : Repo) (l : List Int) : Prop where
  nd : l.Nodup
  rg : ∀ x ∈ l, 0 ≤ x ∧ x ≤ (r.Commits.length : Int) - 1
  up : ∀ x ∈ l, ∀ p ∈ parsAt r x.toNat, p ∈ l ∧ plI l p < plI l x
def renL (r : Repo) (l : List Int) : List Commit := l.map fun i => renC l (r.Commits.getD i.toNat noCommit)
theorem renL_at {x r : Repo} {l : List Int} (hx : x.Commits = renL r l) {i : Nat} (hi : i < l.length) : x.Commits.getD i noCommit = renC l (r.Commits.getD l[i].toNat noCommit) := by
  have : x.Commits[i]? = some (renC l (r.Commits.getD l[i].toNat noCommit)) := by
    rw [hx]
    unfold renL
    rw [List.getElem?_map, List.getElem?_eq_getElem hi]
    rfl
  exact getC_of this
theorem ren_coms {x r : Repo} {l : List Int} (hr : repoB r = true) (ht : Top r l) (hx : x.Commits = renL r l) : comsB x.Commits = true := by
  have hlen : x.Commits.length = l.length := by rw [hx]; simp [renL]
  refine allN_iff.2 fun i _ hi => ?_
  rw [hlen, Nat.zero_add] at hi
  have hm := List.getElem_mem hi
  have hg := ht.rg _ hm
  have hc := repo_com hr (i := l[i].toNat) (by omega)
  rw [renL_at hx hi]
  unfold comB at hc ⊢
  simp only [Bool.and_eq_true, List.all_eq_true] at hc ⊢
  obtain ⟨c1, c2, c3, c4⟩ := hc
  have hsub : ∀ p ∈ (r.Commits.getD l[i].toNat noCommit).Parents, p ∈ l := fun p hp => (ht.up _ hm p hp).1
  refine ⟨fun q hq => ?_, by simpa [renC] using c2, ?_, c4⟩
  · obtain ⟨p, hp, rfl⟩ := List.mem_map.1 hq
    have h1 := plI_mem (hsub p hp)
    have h2 := (ht.up _ hm p hp).2
    rw [nd_pl ht.nd hi] at h2
    exact upB_iff.2 (by omega)
  · show twoB ((r.Commits.getD l[i].toNat noCommit).Parents.map (plI l)) = true
    revert c3 hsub
    generalize (r.Commits.getD l[i].toNat noCommit).Parents = ps
    intro c3 hsub
    match ps with
    | [] => rfl
    | [p] => rfl
    | [p, q] =>
      have hne : p ≠ q := by simpa [twoB] using c3
      have : plI l p ≠ plI l q := fun e => hne (nd_inj (hsub p (by simp)) (hsub q (by simp)) e)
      simpa [twoB] using this
    | p :: q :: s :: t => rfl
end Go.Vm
namespace Go.Vm
open Go Go.Sx
set_option linter.unusedSimpArgs false
set_option linter.unusedVariables false
set_option linter.unusedSectionVars false
theorem plI_hi (l : List Int) (n : Int) : 0 ≤ plI l n ∧ plI l n ≤ (l.length : Int) := by
  unfold plI
  have := List.idxOf_le_length (a := n) (l := l)
  omega
theorem sendP_fit {has list : List Int} (hh : has.length ≤ 1000000) (hl : list.length ≤ 1000000) (p : Int) : fit64 (sendP has list p) := by
  unfold sendP fit64
  have h1 := plI_hi has p
  have h2 := plI_hi list p
  cases hasB list p
  · rw [cond_false]; omega
  · rw [cond_true]; omega
structure SentB (sent : List Commit) : Prop where
  len : sent.length ≤ 16
  cb : ∀ c ∈ sent, CB c
  fit : ∀ c ∈ sent, ∀ p ∈ c.Parents, fit64 p
theorem sendB_sent {r : Repo} (h : RpB r) (hc : r.Commits.length ≤ 16) {has : List Int} (hl : has.length ≤ 1000) (a : Int) : SentB (sendB r has a).1 := by
  have hle := sendB_len (r := r) has a
  refine ⟨by omega, sendB_cb h has a, fun c hm p hp => ?_⟩
  cases h2 : (sendB r has a).2 with
  | false => rw [sendB_none h2] at hm; simp at hm
  | true =>
    obtain ⟨_, _, h4⟩ := sendB_some h2
    rw [h4] at hm
    obtain ⟨x, hx, rfl⟩ := List.mem_map.1 hm
    obtain ⟨q, _, rfl⟩ := List.mem_map.1 hp
    have hll := leftL_len r has a
    exact sendP_fit (by omega) (by omega) q
theorem SentB.take {sent : List Commit} (h : SentB sent) (k : Nat) : SentB (sent.take k) :=
  ⟨Nat.le_trans (List.length_take_le' k sent) h.len, fun c hc => h.cb c (List.mem_of_mem_take hc), fun c hc => h.fit c (List.mem_of_mem_take hc)⟩
theorem SentB.set {sent : List Commit} (h : SentB sent) {c : Commit} (hc : CB c) (hf : ∀ p ∈ c.Parents, fit64 p) (k : Nat) : SentB (sent.set k c) :=
  ⟨by rw [List.length_set]; exact h.len, fun d hd => by
    rcases List.mem_or_eq_of_mem_set hd with q | q
    · exact h.cb d q
    · rw [q]; exact hc, fun d hd => by
    rcases List.mem_or_eq_of_mem_set hd with q | q
    · exact h.fit d q
    · rw [q]; exact hf⟩
theorem sentL_at (has : List Int) (base : Nat) : ∀ (cs : List Commit) (i0 i : Nat), (sentL has base i0 cs)[i]? = (cs[i]?).map (toC has base (i0 + i))
  | [], i0, i => by simp [sentL]
  | c :: cs, i0, 0 => by simp [sentL]
  | c :: cs, i0, i + 1 => by
    simp only [sentL, List.getElem?_cons_succ]
    rw [sentL_at has base cs (i0 + 1) i, show i0 + 1 + i = i0 + (i + 1) by omega]
theorem takeR_rb {r : Repo} {has : List Int} {sent : List Commit} (hr : RpB r) (hok : repoB r = true) (hs : SentB sent) {n : Str} (hn : n.length ≤ 1048576) : RpB (takeR r has sent n) := by
  have h1 := repo_small hok
  have hl := hs.len
  exact (take_rb (has := has) hr (by omega) hs.cb).headR (show r.Heads.length ≤ 100000 by omega) hn _
theorem takeB_some {r : Repo} {has : List Int} {sent : List Commit} {n : Str} (h : (takeB r has sent n).2 = true) : takeB r has sent n = (takeR r has sent n, true) ∧ repoB (takeR r has sent n) = true ∧ repoB r = true := by
  unfold takeB at h ⊢
  cases hok : repoB r with
  | false => rw [hok] at h; cases h
  | true =>
    rw [hok, cond_true] at h
    cases hq : okS has 0 sent && (anyB r has && repoB (takeR r has sent n)) with
    | false => rw [hq] at h; cases h
    | true =>
      simp only [Bool.and_eq_true] at hq
      exact ⟨rfl, hq.2.2, rfl⟩
section
variable {x : Repo} (hr : repoB x = true) {a b : Int} (ha : upB x.Commits.length a = true) (hb : upB x.Commits.length b = true)
include hr ha
include hb
end
end Go.Vm
namespace Go.Vm
open Go Go.Sx
set_option linter.unusedSimpArgs false
set_option linter.unusedVariables false
set_option linter.unusedSectionVars false
theorem okS_of {has : List Int} : ∀ (cs : List Commit) (i0 : Nat), (∀ (j : Nat) (c : Commit), cs[j]? = some c → c.Parents.all (onP has (i0 + j)) = true) → okS has i0 cs = true
  | [], _, _ => rfl
  | c :: cs, i0, h => by
    unfold okS
    have h00 := h 0 c rfl
    rw [Nat.add_zero] at h00
    rw [h00, Bool.true_and]
    exact okS_of cs (i0 + 1) fun j d hd => by
      have := h (j + 1) d (by rw [List.getElem?_cons_succ]; exact hd)
      rwa [show i0 + (j + 1) = i0 + 1 + j by omega] at this
section
variable {r : Repo} (hr : repoB r = true) {a : Int} (ha : upB r.Commits.length a = true)
include hr ha
theorem all_par {c p : Int} (hc : c ∈ allA r a) (hp : p ∈ parsAt r c.toNat) : p ∈ allA r a ∧ p < c := by
  have ua := upB_iff.1 ha
  have hm := allA_mem hc
  have h1 := (allA_iff hr ua.1 ua.2 c).1 hc
  have h2 := (pars_small hr (i := c.toNat) (by omega)).2 p hp
  exact ⟨(allA_iff hr ua.1 ua.2 p).2 ⟨h2.1, Rc.step h1.2 hp⟩, by omega⟩
theorem top_all : Top r (allA r a) := ⟨AscI.nodup (allA_asc r a), fun x hx => allA_mem hx, fun x hx p hp => by
  have h1 := all_par hr ha hx hp
  exact ⟨h1.1, plI_lt (allA_asc r a) h1.1 hx h1.2⟩⟩
theorem left_nil : leftL r [] a = allA r a := List.filter_eq_self.2 fun x _ => rfl
theorem all_sendP {c p : Int} (hc : c ∈ allA r a) (hp : p ∈ parsAt r c.toNat) : sendP [] (allA r a) p = plI (allA r a) p := by
  unfold sendP
  rw [hasB_iff.2 (all_par hr ha hc hp).1]
  rfl
theorem all_send : (allA r a).all (sendAll r [] (allA r a)) = true := by
  rw [List.all_eq_true]
  intro c hc
  unfold sendAll
  rw [List.all_eq_true]
  intro p hp
  unfold sendOk
  rw [hasB_iff.2 (all_par hr ha hc hp).1]
  rfl
theorem all_onP {j : Nat} {c : Int} (hc : (allA r a)[j]? = some c) {p : Int} (hp : p ∈ parsAt r c.toNat) : upB (j : Int) (plI (allA r a) p) = true := by
  obtain ⟨hj, e⟩ := List.getElem?_eq_some_iff.1 hc
  have h1 := all_par hr ha (List.mem_of_getElem? hc) hp
  have h2 := plI_lt (allA_asc r a) h1.1 (List.mem_of_getElem? hc) h1.2
  rw [← e, plI_at (allA_asc r a) hj] at h2
  exact upB_iff.2 ⟨(plI_mem h1.1).1, by omega⟩
theorem all_sent : sentL [] 0 0 (sendL r [] (allA r a)) = renL r (allA r a) := by
  apply List.ext_getElem?
  intro j
  rw [sentL_at, Nat.zero_add]
  unfold sendL renL
  rw [List.getElem?_map, List.getElem?_map]
  cases hc : (allA r a)[j]? with
  | none => rfl
  | some c =>
    have hcm := List.mem_of_getElem? hc
    simp only [Option.map_some]
    congr 1
    unfold toC sendC renC
    simp only [List.map_map]
    congr 1
    refine List.map_congr_left fun p hp => ?_
    simp only [Function.comp_apply]
    rw [all_sendP hr ha hcm hp]
    unfold toP
    rw [all_onP hr ha hc hp, cond_true]
    show ((0 : Nat) : Int) + _ = _
    omega
theorem all_okS : okS [] 0 (sendL r [] (allA r a)) = true := by
  refine okS_of _ 0 fun j d hd => ?_
  rw [Nat.zero_add]
  unfold sendL at hd
  rw [List.getElem?_map] at hd
  cases hc : (allA r a)[j]? with
  | none => rw [hc] at hd; cases hd
  | some c =>
    rw [hc] at hd
    cases hd
    rw [List.all_eq_true]
    intro q hq
    obtain ⟨p, hp, rfl⟩ := List.mem_map.1 hq
    unfold onP
    rw [all_sendP hr ha (List.mem_of_getElem? hc) hp, all_onP hr ha hc hp]
    rfl
theorem all_last : 0 < (allA r a).length ∧ plI (allA r a) a = ((allA r a).length : Int) - 1 := by
  have ua := upB_iff.1 ha
  have hs := allA_self hr ua.1 ua.2
  have hpos : 0 < (allA r a).length := List.length_pos_of_mem hs
  have hlast := last_max (allA_asc r a) hs fun y hy => allA_le hr ua.1 ua.2 hy
  have hi : (allA r a).length - 1 < (allA r a).length := by omega
  rw [List.getD_eq_getElem?_getD, List.getElem?_eq_getElem hi, Option.getD_some] at hlast
  have := plI_at (allA_asc r a) hi
  rw [hlast] at this
  exact ⟨hpos, by omega⟩
end
theorem zero_ok : repoB zeroR = true := rfl
theorem zero_rb : RpB zeroR := ⟨by simp [zeroR], fun c hc => by simp [zeroR] at hc, by simp [zeroR], fun c hc => by simp [zeroR] at hc⟩
theorem zero_take {r : Repo} (hr : repoB r = true) {a : Int} (ha : upB r.Commits.length a = true) {n : Str} (hn : nameB n = true) :
    repoB ⟨renL r (allA r a), [⟨n, plI (allA r a) a⟩]⟩ = true ∧ takeB zeroR [] (sendL r [] (allA r a)) n = (⟨renL r (allA r a), [⟨n, plI (allA r a) a⟩]⟩, true) := by
  obtain ⟨hpos, hlast⟩ := all_last hr ha
  have hle := allA_len r a
  have hs := repo_small hr
  have hsl : (sendL r [] (allA r a)).length = (allA r a).length := by simp [sendL]
  have hgl : (renL r (allA r a)).length = (allA r a).length := by simp [renL]
  have hok : repoB ⟨renL r (allA r a), [⟨n, plI (allA r a) a⟩]⟩ = true := by
    refine repoB_iff.2 ⟨⟨by show (renL r (allA r a)).length ≤ 16; omega, ren_coms (x := ⟨renL r (allA r a), []⟩) hr (top_all hr ha) rfl⟩, headsB_iff.2 ⟨fun h hh => ?_, by simp, by simp⟩⟩
    simp only [List.mem_cons, List.not_mem_nil, or_false] at hh
    rw [hh]
    exact ⟨hn, upB_iff.2 (by show 0 ≤ plI _ _ ∧ plI _ _ ≤ ((renL r (allA r a)).length : Int) - 1; omega)⟩
  have eT : takeR zeroR [] (sendL r [] (allA r a)) n = ⟨renL r (allA r a), [⟨n, plI (allA r a) a⟩]⟩ := by
    unfold takeR
    show headR ⟨[] ++ sentL [] 0 0 (sendL r [] (allA r a)), []⟩ n (endAt [] 0 (sendL r [] (allA r a)).length) = _
    rw [all_sent hr ha, hsl, List.nil_append]
    unfold endAt
    rw [beq_false_of_ne (by omega), cond_false, hlast, show (((0 + (allA r a).length - 1 : Nat)) : Int) = ((allA r a).length : Int) - 1 by omega]
    rfl
  refine ⟨hok, ?_⟩
  unfold takeB
  rw [zero_ok, all_okS hr ha, eT, hok]
  rfl
theorem FnKeepSend_eq {code : List Byte} (h : Bk.fit code) : laws_FnKeepSend code = some true := by
  unfold laws_FnKeepSend
  by_cases hc : (1048576 : Int) < (code.length : Int)
  · rw [decide_eq_true hc]; rfl
  obtain ⟨x, e, hx⟩ := drawKeepOnly_eq (code := code) (by omega)
  have hb := hx.rb
  rw [decide_eq_false hc, cond_false, e, Option.bind_some]
  simp only [repo_eta, iKeepOnly_eq hb, sKeepOnly_eq hb, Option.bind_some, jn, RepoOk_eq hb]
  cases hr : repoB x with
  | false => simp only [cond_false, smRepo_eq zero_rb, beq_self_eq_true, Option.bind_some, Bool.not_true, Bool.not_false, cond_true]
  | true =>
    have hkb := keepR_rb hb hr
    have hk := keepR_ok hr
    simp only [cond_true, smRepo_eq hkb, beq_self_eq_true, Option.bind_some, Bool.not_true, cond_false]
    generalize keepR x = X at hkb hk
    by_cases hz : X.Heads = []
    · rw [hz]; rfl
    have hpos : 0 < X.Heads.length := List.length_pos_iff.2 hz
    rw [beq_false_of_ne (by omega), cond_false]
    have hx0 : X.Heads[0]? = some X.Heads[0] := List.getElem?_eq_getElem hpos
    have g0 : gi X.Heads 0 = some X.Heads[0] := gi_of hx0
    have hat := head_at hk (List.getElem_mem hpos)
    have hnl := nameB_len hat.2.2
    have hs := repo_small hk
    generalize hh : X.Heads[0] = hd at g0 hat hnl
    have ua : upB X.Commits.length hd.At = true := upB_iff.2 ⟨hat.1, hat.2.1⟩
    have hle := allA_len X hd.At
    have hsus : suspB X [] hd.At = true := by unfold suspB anyB; rw [hk, ua]; rfl
    have eS : sendB X [] hd.At = (sendL X [] (allA X hd.At), true) := by unfold sendB; rw [hsus, left_nil hk ua, all_send hk ua]; rfl
    have hsB : SentB (sendL X [] (allA X hd.At)) := by have := sendB_sent hkb hs.1 (has := []) (by simp) hd.At; rwa [eS] at this
    obtain ⟨hok, eT⟩ := zero_take hk ua hat.2.2
    have hl0 : (zeroR.Commits.length + (sendL X [] (allA X hd.At)).length) ≤ 1048576 := by have := hsB.len; show 0 + _ ≤ _; omega
    have hrbX : RpB ⟨renL X (allA X hd.At), [⟨hd.Name, plI (allA X hd.At) hd.At⟩]⟩ := by
      have h1 := takeB_some (r := zeroR) (has := []) (sent := sendL X [] (allA X hd.At)) (n := hd.Name) (by rw [eT])
      have h2 := takeR_rb (r := zeroR) (has := []) zero_rb zero_ok hsB (n := hd.Name) (by omega)
      rw [eT] at h1
      have h3 := (Prod.mk.inj h1.1).1
      rwa [← h3] at h2
    obtain ⟨lpos, llast⟩ := all_last hk ua
    have hself := allA_self hk hat.1 hat.2.1
    obtain ⟨q0, q1, q2, q3⟩ := plI_mem hself
    have hYl : (renL X (allA X hd.At)).length = (allA X hd.At).length := by simp [renL]
    have eat : repoAt ⟨renL X (allA X hd.At), [⟨hd.Name, plI (allA X hd.At) hd.At⟩]⟩ hd.Name = plI (allA X hd.At) hd.At := by
      unfold repoAt
      rw [hok, cond_true]
      exact (at_here (r := ⟨renL X (allA X hd.At), [⟨hd.Name, plI (allA X hd.At) hd.At⟩]⟩) hok (x := ⟨hd.Name, plI (allA X hd.At) hd.At⟩) List.mem_cons_self).1
    have etr : treeOf ⟨renL X (allA X hd.At), [⟨hd.Name, plI (allA X hd.At) hd.At⟩]⟩ (plI (allA X hd.At) hd.At) = ((X.Commits.getD hd.At.toNat noCommit).Tree, true) := by
      unfold treeOf
      rw [hok, upB_iff.2 (show 0 ≤ plI (allA X hd.At) hd.At ∧ plI (allA X hd.At) hd.At ≤ ((renL X (allA X hd.At)).length : Int) - 1 by omega)]
      show (treeAt _ _, true) = _
      unfold treeAt
      rw [renL_at (x := ⟨renL X (allA X hd.At), [⟨hd.Name, plI (allA X hd.At) hd.At⟩]⟩) rfl q2, q3]
      rfl
    have eanc : ancAllB X hd.At = allA X hd.At := by unfold ancAllB; rw [hk, ua]; rfl
    have htb := tree_at_tb hkb ua
    unfold treeAt at htb
    rw [g0, Option.bind_some, iSendOf_eq hkb (by simp), eS, Option.bind_some]
    rw [show (⟨[], []⟩ : Repo) = zeroR from rfl, iSendTake_eq zero_rb (by simp) hl0 hsB.cb hsB.fit (by omega), eT, Option.bind_some]
    simp only [repo_eta, iRepoAt_eq hrbX, eat, Option.bind_some, iRepoTree_eq hrbX, etr, cond_true, com_atI hat.1 hat.2.1, smTree_eq htb, beq_self_eq_true, iAncAll_eq hkb, eanc, hYl]
end Go.Vm
namespace Go.Vm
open Go Go.Sx
set_option linter.unusedSimpArgs false
set_option linter.unusedVariables false
theorem AscI.lt {l : List Int} (h : AscI l) {i k : Nat} (hik : i < k) (hk : k < l.length) : l.getD i 0 < l.getD k 0 := by
  have h1 : i < l.length := by omega
  have := List.pairwise_iff_getElem.1 h i k h1 hk hik
  rw [getI_of (List.getElem?_eq_getElem h1), getI_of (List.getElem?_eq_getElem hk)]
  exact this
theorem AscI.inj {l : List Int} (h : AscI l) {i k : Nat} (hi : i < l.length) (hk : k < l.length) (e : l.getD i 0 = l.getD k 0) : i = k := by
  rcases Nat.lt_trichotomy i k with h1 | h1 | h1
  · have := h.lt h1 hk; omega
  · exact h1
  · have := h.lt h1 hi; omega
end Go.Vm
