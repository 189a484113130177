/- Plain law FnSendTake, and what it uses: what the models answer. Conditions: each law's own premises. -/
import Derived.Test.YtidkloialdageaaGreatDoorBGFnSendTakea

namespace Go.Vm
open Go Go.Sx
set_option linter.unusedSimpArgs false
set_option linter.unusedVariables false

theorem anyB_up {r : Repo} {good : List Int} (h : anyB r good = true) : (∀ g ∈ good, upB r.Commits.length g = true) ∧ good.length ≤ 16 := by
  unfold anyB at h
  simp only [Bool.and_eq_true, List.all_eq_true, decide_eq_true_eq] at h
  exact ⟨h.1, by omega⟩
theorem l12Left_eq {r : Repo} (hr : repoB r = true) {good : List Int} (hg : ∀ g ∈ good, upB r.Commits.length g = true) (hl : good.length ≤ 1000) {bad : Int} (hb : upB r.Commits.length bad = true) : spec_l12Left r good bad = some (leftL r good bad) := by
  obtain ⟨b0, b1⟩ := upB_iff.1 hb
  have hs := (repo_small hr).1
  have hal := allA_len r bad
  unfold spec_l12Left
  rw [l8All_eq hr b0 b1, Option.bind_some]
  simp only [jn, fuel0]
  rw [loop_filter (xs := allA r bad) (p := fun x => good.all fun g => !hasB (allA r g) x) (g := fun x : Int => x) (Z := fun acc => some acc) (f := fun m acc i => spec_l12Left_l1 r good (allA r bad) _ m acc i) (fun m i x acc hx ha => by
    have hin : ∀ K : Bool → Int → Option (List Int), spec_l12Left_l2 r good (allA r bad) (i : Int) K (good.length + 1) true 0 = K (true && good.all fun g => !hasB (allA r g) x) (good.length : Int) := fun K => by
      rw [← foldl_and]
      exact loop_fold0 (xs := good) (g := fun b g => b && !hasB (allA r g) x) (I := fun _ => True) (Z := fun q => K q (good.length : Int)) (f := fun m' k q => spec_l12Left_l2 r good (allA r bad) (i : Int) K m' q k) trivial (fun m' k g q hgk _ => by
        obtain ⟨g0, g1⟩ := upB_iff.1 (hg g (List.mem_of_getElem? hgk))
        have hgl := allA_len r g
        refine ⟨?_, trivial⟩
        simp only [spec_l12Left_l2, lt_of hgk, gi_of hgk, gi_of hx, cond_true, Option.bind_some, l8All_eq hr g0 g1, l8Has_eq (show (allA r g).length ≤ 1000000 by omega), w64_ix (ix_of hgk) (show good.length ≤ maxi by unfold maxi; omega)]
        cases q <;> rfl) (fun m' q _ => by simp only [spec_l12Left_l2, end_of, cond_false])
    have hi := ix_of hx
    simp only [spec_l12Left_l1, jn, lt_of hx, cond_true, fuel0, hin, gi_of hx, Option.bind_some, Bool.true_and, w64_ix (ix_of hx) (show (allA r bad).length ≤ maxi by unfold maxi; omega), ap1 (show acc.length ≤ 1048576 by omega)]
    cases (good.all fun g => !hasB (allA r g) x) <;> rfl) (fun m acc => by simp only [spec_l12Left_l1, end_of, cond_false]) (by omega)]
  rw [List.map_id']
  rfl
section
variable {r : l30Rd} {p : Int}
end
end Go.Vm

namespace Go.Vm
open Go Go.Sx
set_option linter.unusedSimpArgs false
set_option linter.unusedVariables false
set_option linter.unusedSectionVars false

def sendP (has list : List Int) (p : Int) : Int := bif hasB list p then plI list p else -1 - plI has p
def sendOk (has list : List Int) (p : Int) : Bool := hasB list p || hasB has p
def sendC (has list : List Int) (c : Commit) : Commit := ⟨c.Parents.map (sendP has list), c.Who, c.Tree⟩
def sendAll (r : Repo) (has list : List Int) (x : Int) : Bool := (parsAt r x.toNat).all (sendOk has list)
def sendL (r : Repo) (has list : List Int) : List Commit := list.map fun i => sendC has list (r.Commits.getD i.toNat noCommit)
def suspB (r : Repo) (has : List Int) (a : Int) : Bool := repoB r && (anyB r has && upB r.Commits.length a)
def sendB (r : Repo) (has : List Int) (a : Int) : List Commit × Bool :=
  bif suspB r has a then (bif (leftL r has a).all (sendAll r has (leftL r has a)) then (sendL r has (leftL r has a), true) else ([], false)) else ([], false)
theorem placeB_lt {l : List Int} {n : Int} : decide (placeB l n < 0) = !hasB l n := by
  unfold placeB
  cases h : hasB l n with
  | true =>
    have := (plI_mem (hasB_iff.1 h)).1
    rw [cond_true, decide_eq_false (by omega)]
    rfl
  | false => rfl
theorem placeB_rng {l : List Int} {n : Int} : -1 ≤ placeB l n ∧ placeB l n < (l.length : Int) := by
  unfold placeB
  cases h : hasB l n with
  | true =>
    have := plI_mem (hasB_iff.1 h)
    rw [cond_true]
    omega
  | false => rw [cond_false]; omega
section
variable {has list : List Int} (hh : has.length ≤ 1000000) (hl : list.length ≤ 1000000)
include hh hl
theorem ssend_l2 {P : List Int} (hP : P.length ≤ 1000000) {K : List Commit → Bool → Int → List Int → Option (List Commit × Bool)} {y : List Commit} {b : Bool} : ∀ (j k m : Nat), k + j = P.length → j < m →
    spec_SendOf_l2 has list K m y b (k : Int) (half (sendP has list) P k) = bif (P.drop k).all (sendOk has list) then K y b (P.length : Int) (P.map (sendP has list)) else some ([], false)
  | j, k, 0, _, hm => by omega
  | 0, k, m + 1, hk, _ => by
    obtain rfl : k = P.length := by omega
    rw [half_end, List.drop_length]
    simp only [spec_SendOf_l2, show (P.length : Int) = ((P.map (sendP has list)).length : Int) by rw [List.length_map], end_of, cond_false, List.all_nil, cond_true]
  | j + 1, k, m + 1, hk, hm => by
    have hlt : k < P.length := by omega
    have hx : (half (sendP has list) P k)[k]? = some P[k] := half_at hlt
    have hkl : k < (half (sendP has list) P k).length := by rw [half_len]; exact hlt
    have ih := ssend_l2 hP (K := K) (y := y) (b := b) j (k + 1) m (by omega) (by omega)
    simp only [spec_SendOf_l2, jn, lt_of hx, gi_of hx, cond_true, Option.bind_some, sPlace_eq hl, sPlace_eq hh, siM_of hkl, w64_ix hlt (show P.length ≤ maxi by unfold maxi; omega), placeB_lt]
    rw [List.drop_eq_getElem_cons hlt, List.all_cons]
    cases h1 : hasB list P[k] with
    | true =>
      have e1 : placeB list P[k] = sendP has list P[k] := by unfold placeB sendP; rw [h1]; rfl
      have e2 : sendOk has list P[k] = true := by unfold sendOk; rw [h1]; rfl
      simp only [Bool.not_true, cond_false, e1, e2, Bool.true_and]
      rw [half_set hlt]
      exact ih
    | false =>
      cases h2 : hasB has P[k] with
      | false =>
        have e2 : sendOk has list P[k] = false := by unfold sendOk; rw [h1, h2]; rfl
        simp only [Bool.not_false, cond_true, e2, Bool.false_and, cond_false]
      | true =>
        have e2 : sendOk has list P[k] = true := by unfold sendOk; rw [h1, h2]; rfl
        have e1 : -1 - placeB has P[k] = sendP has list P[k] := by unfold placeB sendP; rw [h1, h2]; rfl
        have hr := placeB_rng (l := has) (n := P[k])
        have hs : ((half (sendP has list) P k).set k (placeB list P[k]))[k]? = some (placeB list P[k]) := by rw [List.getElem?_set_self hkl]
        simp only [Bool.not_true, Bool.not_false, cond_true, cond_false, e2, Bool.true_and, gi_of hs, Option.bind_some, siM_of (show k < ((half (sendP has list) P k).set k (placeB list P[k])).length by rw [List.length_set]; exact hkl), List.set_set]
        rw [w64_id (by omega) (by omega), e1, half_set hlt]
        exact ih
variable {r : Repo} (h : RpB r) (hr : repoB r = true) (hg : ∀ x ∈ list, 0 ≤ x ∧ x ≤ (r.Commits.length : Int) - 1)
include h hr hg
theorem com_cb {x : Int} (hx : x ∈ list) : CB (r.Commits.getD x.toNat noCommit) ∧ (r.Commits.getD x.toNat noCommit).Parents.length ≤ 2 := by
  have hrg := hg x hx
  have hgx : r.Commits[x.toNat]? = some (r.Commits[x.toNat]'(by omega)) := List.getElem?_eq_getElem _
  have hps := pars_small hr (i := x.toNat) (by omega)
  unfold parsAt at hps
  exact ⟨by rw [getC_of hgx]; exact h.cat hgx, hps.1⟩
theorem ssend_l1 {K : List Commit → Bool → List Commit → Int → Option (List Commit × Bool)} : ∀ (j k m : Nat), k + j = list.length → j < m →
    spec_SendOf_l1 r has list K m [] false ((list.take k).map fun i => sendC has list (r.Commits.getD i.toNat noCommit)) (k : Int) = bif (list.drop k).all (sendAll r has list) then K [] false (sendL r has list) (list.length : Int) else some ([], false)
  | j, k, 0, _, hm => by omega
  | 0, k, m + 1, hk, _ => by
    obtain rfl : k = list.length := by omega
    rw [List.take_length, List.drop_length]
    simp only [spec_SendOf_l1, end_of, cond_false, List.all_nil, cond_true]
    rfl
  | j + 1, k, m + 1, hk, hm => by
    have hlt : k < list.length := by omega
    have hx : list[k]? = some list[k] := List.getElem?_eq_getElem hlt
    have hxm := List.getElem_mem hlt
    have hrg := hg _ hxm
    obtain ⟨hc, hp2⟩ := com_cb hh hl h hr hg hxm
    have ih := ssend_l1 (K := K) j (k + 1) m (by omega) (by omega)
    rw [List.take_succ_eq_append_getElem hlt, List.map_append] at ih
    have el : ((list.take k).map fun i => sendC has list (r.Commits.getD i.toNat noCommit)).length ≤ 1048576 := by rw [List.length_map, List.length_take]; omega
    simp only [spec_SendOf_l1, jn, lt_of hx, gi_of hx, cond_true, Option.bind_some, com_atI hrg.1 hrg.2, l7CopyCommit_eq hc, fuel0]
    have e := ssend_l2 hh hl (P := (r.Commits.getD list[k].toNat noCommit).Parents) (by omega) (y := []) (b := false) (K := fun (y200 : List Vm.Commit) (y203 : Bool) (y204 : Int) (y207 : List Int) =>
        (apM ((list.take k).map fun i => sendC has list (r.Commits.getD i.toNat noCommit)) [Vm.Commit.mk y207 (r.Commits.getD list[k].toNat noCommit).Who (r.Commits.getD list[k].toNat noCommit).Tree]).bind fun q309 =>
        spec_SendOf_l1 r has list K m y200 y203 q309 (w64 ((k : Int) + 1))) (r.Commits.getD list[k].toNat noCommit).Parents.length 0 ((r.Commits.getD list[k].toNat noCommit).Parents.length + 1) (by omega) (by omega)
    rw [half_self] at e
    refine e.trans ?_
    rw [List.drop_eq_getElem_cons hlt, List.all_cons, List.drop_zero]
    have ea : (r.Commits.getD list[k].toNat noCommit).Parents.all (sendOk has list) = sendAll r has list list[k] := rfl
    rw [ea]
    cases sendAll r has list list[k] with
    | false => rfl
    | true =>
      rw [cond_true, Bool.true_and, ap1 el, Option.bind_some, w64_ix hlt (show list.length ≤ maxi by unfold maxi; omega)]
      exact ih
end
theorem susp_facts {r : Repo} {has : List Int} {a : Int} (h : suspB r has a = true) : repoB r = true ∧ upB r.Commits.length a = true ∧ anyB r has = true ∧ (∀ g ∈ has, upB r.Commits.length g = true) ∧ has.length ≤ 16 := by
  unfold suspB at h
  simp only [Bool.and_eq_true] at h
  obtain ⟨h1, h2, h3⟩ := h
  exact ⟨h1, h3, h2, (anyB_up h2).1, (anyB_up h2).2⟩
theorem leftL_rng {r : Repo} {has : List Int} {a x : Int} (hx : x ∈ leftL r has a) : 0 ≤ x ∧ x ≤ (r.Commits.length : Int) - 1 := allA_mem (leftL_mem.1 hx).1
theorem sSendOf_eq {r : Repo} (h : RpB r) {has : List Int} (hl : has.length ≤ 1000) (a : Int) : spec_SendOf r has a = some (sendB r has a) := by
  unfold spec_SendOf sendB
  simp only [jn, l7Ok_eq h, l12Any_eq h (show has.length ≤ 1048576 by omega), l1In_eq, low_ix (to_maxi h.coms), Option.bind_some]
  rw [show (decide ((0 : Int) ≤ a) && decide (a ≤ (r.Commits.length : Int) - 1)) = upB r.Commits.length a from rfl]
  cases hs : suspB r has a with
  | false =>
    unfold suspB at hs
    cases h1 : repoB r with
    | false => rfl
    | true =>
      cases h2 : anyB r has with
      | false => rfl
      | true =>
        rw [h1, h2] at hs
        simp only [Bool.true_and] at hs
        rw [hs]
        rfl
  | true =>
    obtain ⟨h1, h2, h3, h4, h5⟩ := susp_facts hs
    have hle := leftL_len r has a
    have hsm := (repo_small h1).1
    rw [h1, h2, h3]
    simp only [Bool.not_true, cond_false, cond_true]
    unfold spec_l15New
    rw [l12Left_eq h1 h4 (by omega) h2, Option.bind_some, Option.bind_some]
    simp only [fuel0]
    have e := ssend_l1 (has := has) (list := leftL r has a) (by omega) (by omega) h h1 (fun x hx => leftL_rng hx) (K := fun _ _ y26 _ => some (y26, true)) (leftL r has a).length 0 ((leftL r has a).length + 1) (by omega) (by omega)
    refine e.trans ?_
    rw [List.drop_zero]
    cases (leftL r has a).all (sendAll r has (leftL r has a)) <;> rfl
theorem sendB_some {r : Repo} {has : List Int} {a : Int} (h : (sendB r has a).2 = true) : suspB r has a = true ∧ (leftL r has a).all (sendAll r has (leftL r has a)) = true ∧ (sendB r has a).1 = sendL r has (leftL r has a) := by
  unfold sendB at h ⊢
  cases hs : suspB r has a with
  | false => rw [hs] at h; cases h
  | true =>
    rw [hs, cond_true] at h
    cases ha : (leftL r has a).all (sendAll r has (leftL r has a)) with
    | false => rw [ha] at h; cases h
    | true => exact ⟨rfl, rfl, rfl⟩
theorem sendB_none {r : Repo} {has : List Int} {a : Int} (h : (sendB r has a).2 = false) : (sendB r has a).1 = [] := by
  unfold sendB at h ⊢
  cases hs : suspB r has a with
  | false => rfl
  | true =>
    rw [hs, cond_true] at h
    cases ha : (leftL r has a).all (sendAll r has (leftL r has a)) with
    | false => rfl
    | true => rw [ha] at h; cases h
theorem sendC_cb {c : Commit} (h : CB c) (has list : List Int) : CB (sendC has list c) := ⟨by simp only [sendC, List.length_map]; exact h.par, h.who, h.tree⟩
theorem sendB_cb {r : Repo} (h : RpB r) (has : List Int) (a : Int) : ∀ c ∈ (sendB r has a).1, CB c := fun c hc => by
  cases h2 : (sendB r has a).2 with
  | false => rw [sendB_none h2] at hc; simp at hc
  | true =>
    obtain ⟨h3, _, h4⟩ := sendB_some h2
    rw [h4] at hc
    obtain ⟨x, hx, rfl⟩ := List.mem_map.1 hc
    have hrg := leftL_rng hx
    have hgx : r.Commits[x.toNat]? = some (r.Commits[x.toNat]'(by omega)) := List.getElem?_eq_getElem _
    exact sendC_cb (by rw [getC_of hgx]; exact h.cat hgx) _ _
theorem sendB_len {r : Repo} (has : List Int) (a : Int) : (sendB r has a).1.length ≤ r.Commits.length := by
  cases h2 : (sendB r has a).2 with
  | false => rw [sendB_none h2]; simp
  | true =>
    obtain ⟨h3, _, h4⟩ := sendB_some h2
    rw [h4]
    unfold sendL
    rw [List.length_map]
    exact leftL_len r has a

end Go.Vm

namespace Go.Vm
open Go Go.Sx
set_option linter.unusedSimpArgs false
set_option linter.unusedVariables false
set_option linter.unusedSectionVars false

theorem plI_hi (l : List Int) (n : Int) : 0 ≤ plI l n ∧ plI l n ≤ (l.length : Int) := by
  unfold plI
  have := List.idxOf_le_length (a := n) (l := l)
  omega
theorem sendP_fit {has list : List Int} (hh : has.length ≤ 1000000) (hl : list.length ≤ 1000000) (p : Int) : fit64 (sendP has list p) := by
  unfold sendP fit64
  have h1 := plI_hi has p
  have h2 := plI_hi list p
  cases hasB list p
  · rw [cond_false]; omega
  · rw [cond_true]; omega
/-- What may be taken. -/
structure SentB (sent : List Commit) : Prop where
  len : sent.length ≤ 16
  cb : ∀ c ∈ sent, CB c
  fit : ∀ c ∈ sent, ∀ p ∈ c.Parents, fit64 p
theorem sendB_sent {r : Repo} (h : RpB r) (hc : r.Commits.length ≤ 16) {has : List Int} (hl : has.length ≤ 1000) (a : Int) : SentB (sendB r has a).1 := by
  have hle := sendB_len (r := r) has a
  refine ⟨by omega, sendB_cb h has a, fun c hm p hp => ?_⟩
  cases h2 : (sendB r has a).2 with
  | false => rw [sendB_none h2] at hm; simp at hm
  | true =>
    obtain ⟨_, _, h4⟩ := sendB_some h2
    rw [h4] at hm
    obtain ⟨x, hx, rfl⟩ := List.mem_map.1 hm
    obtain ⟨q, _, rfl⟩ := List.mem_map.1 hp
    have hll := leftL_len r has a
    exact sendP_fit (by omega) (by omega) q
theorem SentB.take {sent : List Commit} (h : SentB sent) (k : Nat) : SentB (sent.take k) :=
  ⟨Nat.le_trans (List.length_take_le' k sent) h.len, fun c hc => h.cb c (List.mem_of_mem_take hc), fun c hc => h.fit c (List.mem_of_mem_take hc)⟩
theorem SentB.set {sent : List Commit} (h : SentB sent) {c : Commit} (hc : CB c) (hf : ∀ p ∈ c.Parents, fit64 p) (k : Nat) : SentB (sent.set k c) :=
  ⟨by rw [List.length_set]; exact h.len, fun d hd => by
    rcases List.mem_or_eq_of_mem_set hd with q | q
    · exact h.cb d q
    · rw [q]; exact hc, fun d hd => by
    rcases List.mem_or_eq_of_mem_set hd with q | q
    · exact h.fit d q
    · rw [q]; exact hf⟩
theorem drawTake_end {b : List Byte} {q p : Int} (hr : RdOk ⟨b, q⟩ p) (hp : p ≤ 200000) {x : Repo} {has : List Int} {sent : List Commit} (hs : SentB sent) :
    ∃ n : Str, ((spec_l30Rd_of ⟨b, q⟩ ([([110, 101, 119] : Str), ([109, 97, 105, 110] : Str), ([120] : Str)] : List Str)).bind fun z123 => some (x, has, sent, z123.1)) = some (x, has, sent, n) ∧ n.length ≤ 10 := by
  obtain ⟨s, e3, hm⟩ := of_eq hr (by omega) (l := [([110, 101, 119] : Str), ([109, 97, 105, 110] : Str), ([120] : Str)]) (by simp) (by simp)
  refine ⟨s, by rw [e3]; rfl, ?_⟩
  simp only [List.mem_cons, List.not_mem_nil, or_false] at hm
  rcases hm with rfl | rfl | rfl <;> simp
theorem drawTake_mid {b : List Byte} {q p : Int} (hr : RdOk ⟨b, q⟩ p) (hp : p ≤ 100000) {x : Repo} {has : List Int} {y77 : List Commit} (hs : SentB y77) :
    ∃ sent n, (jn (fun (y179 : Bool) (y180 : List Byte) (y183 : Int) =>
        bif y179 then
          ((Vm.spec_l30Rd_one (Vm.l30Rd.mk y180 y183) ([(-99), 5, 0] : List Int)).bind fun z205 =>
          (gi y77 0).bind fun u226 =>
          (siM y77 0 (Vm.Commit.mk ([z205.1] : List Int) u226.Who u226.Tree)).bind fun q229 =>
          (spec_l30Rd_of ⟨y180, z205.2⟩ ([([110, 101, 119] : Str), ([109, 97, 105, 110] : Str), ([120] : Str)] : List Str)).bind fun z123 => some (x, has, q229, z123.1))
        else
          ((spec_l30Rd_of ⟨y180, y183⟩ ([([110, 101, 119] : Str), ([109, 97, 105, 110] : Str), ([120] : Str)] : List Str)).bind fun z123 => some (x, has, y77, z123.1))) fun K186 =>
      bif decide ((0 : Int) < ((y77.length : Int) : Int)) then
        ((Vm.spec_l30Rd_pick (Vm.l30Rd.mk b q) 8).bind fun z242 =>
        K186 ((z242.1 : Int) == (0 : Int)) b z242.2)
      else
        (K186 false b q)) = some (x, has, sent, n) ∧ SentB sent ∧ n.length ≤ 10 := by
  simp only [jn]
  by_cases h0 : 0 < y77.length
  · obtain ⟨k, e1, k0, k1⟩ := pick_eq hr (n := 8) (by omega) (by omega) (by omega)
    have r1 : RdOk ⟨b, q + 1⟩ (p + 1) := rd_on (r := ⟨b, q⟩) (q := p + 1) hr (k := 1) (by omega) (by omega)
    simp only at e1
    rw [decide_eq_true (by omega), cond_true, e1, Option.bind_some]
    simp only
    cases k == 0 with
    | false =>
      obtain ⟨n, e2, hn⟩ := drawTake_end r1 (by omega) (x := x) (has := has) hs
      exact ⟨y77, n, by rw [cond_false]; exact e2, hs, hn⟩
    | true =>
      obtain ⟨z, e3, hz⟩ := one_eq r1 (by omega) (l := [(-99), 5, 0]) (by simp) (by simp)
      have r2 : RdOk ⟨b, q + 1 + 1⟩ (p + 2) := rd_on (r := ⟨b, q + 1⟩) (q := p + 2) r1 (k := 1) (by omega) (by omega)
      have hx : y77[0]? = some y77[0] := List.getElem?_eq_getElem h0
      have hcb := hs.cb _ (List.getElem_mem h0)
      have hs2 : SentB (y77.set 0 ⟨[z], y77[0].Who, y77[0].Tree⟩) := SentB.set (c := ⟨[z], y77[0].Who, y77[0].Tree⟩) hs ⟨by simp, hcb.who, hcb.tree⟩ (fun p hp => by
        simp only [List.mem_cons, List.not_mem_nil, or_false] at hp hz
        unfold fit64
        omega) 0
      obtain ⟨n, e2, hn⟩ := drawTake_end r2 (by omega) (x := x) (has := has) hs2
      have g0 : gi y77 0 = some y77[0] := gi_of hx
      have s0 : siM y77 0 (⟨[z], y77[0].Who, y77[0].Tree⟩ : Commit) = some (y77.set 0 ⟨[z], y77[0].Who, y77[0].Tree⟩) := siM_of h0 _
      simp only at e3
      exact ⟨_, n, by rw [cond_true, e3, Option.bind_some, g0, Option.bind_some]; simp only; rw [s0, Option.bind_some]; exact e2, hs2, hn⟩
  · obtain ⟨n, e2, hn⟩ := drawTake_end hr (by omega) (x := x) (has := has) hs
    exact ⟨y77, n, by rw [decide_eq_false (by omega), cond_false, cond_false]; exact e2, hs, hn⟩
theorem drawSendTake_eq {code : List Byte} (h : code.length ≤ 1048576) : ∃ x has sent n, spec_DrawSendTake code = some (x, has, sent, n) ∧ Good x ∧ has.length ≤ 16 ∧ SentB sent ∧ n.length ≤ 10 := by
  unfold spec_DrawSendTake
  obtain ⟨b, e, hr⟩ := open0 h
  obtain ⟨x, q, e2, hx, r2⟩ := repo_eq hr (by omega)
  have hd := hx.drawn
  have hcm := hd.coms
  simp only [e, Option.bind_some, e2, repo_eta]
  have rest : ∀ (has : List Int) (q' p : Int), has.length ≤ 16 → RdOk ⟨b, q'⟩ p → p ≤ 50000 → ∃ sent n, ((spec_l30At ⟨b, q'⟩ x).bind fun z58 => (spec_SendOf x has z58.1).bind fun z67 =>
      jn (fun (y77 : List Vm.Commit) =>
      jn (fun (y89 : List Byte) (y92 : Int) (y94 : List Vm.Commit) =>
        (Vm.spec_l30Rd_of (Vm.l30Rd.mk y89 y92) ([([110, 101, 119] : Str), ([109, 97, 105, 110] : Str), ([120] : Str)] : List Str)).bind fun z123 =>
        some (x, has, y94, z123.1)) fun K97 =>
      jn (fun (y179 : Bool) (y180 : List Byte) (y183 : Int) =>
        bif y179 then
          ((Vm.spec_l30Rd_one (Vm.l30Rd.mk y180 y183) ([(-99), 5, 0] : List Int)).bind fun z205 =>
          (gi y77 0).bind fun u226 =>
          (siM y77 0 (Vm.Commit.mk ([z205.1] : List Int) u226.Who u226.Tree)).bind fun q229 =>
          K97 y180 z205.2 q229)
        else
          (K97 y180 y183 y77)) fun K186 =>
      bif decide ((0 : Int) < ((y77.length : Int) : Int)) then
        ((Vm.spec_l30Rd_pick (Vm.l30Rd.mk b z58.2) 8).bind fun z242 =>
        K186 ((z242.1 : Int) == (0 : Int)) b z242.2)
      else
        (K186 false b z58.2)) fun K81 =>
      bif decide ((3 : Int) < ((z67.1.length : Int) : Int)) then
        ((slM z67.1 0 3).bind fun q255 => K81 q255)
      else (K81 z67.1)) = some (x, has, sent, n) ∧ SentB sent ∧ n.length ≤ 10 := fun has q' p hl hq hp => by
    obtain ⟨a, e3, a0, a1⟩ := l30At_eq hq (by omega) hd
    have r3 : RdOk ⟨b, q' + 1 + 1⟩ (p + 2) := rd_on (r := ⟨b, q' + 1⟩) (rd_on (r := ⟨b, q'⟩) (q := p + 1) hq (k := 1) (by omega) (by omega)) (by omega) (by omega)
    have hsb := sendB_sent hx.rb hcm (has := has) (by omega) a
    simp only at e3
    rw [e3, Option.bind_some]
    simp only
    rw [sSendOf_eq hx.rb (by omega), Option.bind_some]
    by_cases h3 : (3 : Int) < ((sendB x has a).1.length : Int)
    · obtain ⟨sent, n, e4, h4, h5⟩ := drawTake_mid r3 (by omega) (x := x) (has := has) (hsb.take 3)
      have es : slM (sendB x has a).1 0 3 = some ((sendB x has a).1.take 3) := by rw [slM_of (by omega) (by omega) (by omega)]; rfl
      refine ⟨sent, n, ?_, h4, h5⟩
      rw [← e4]
      simp only [jn]
      rw [decide_eq_true h3, cond_true, es]
      rfl
    · obtain ⟨sent, n, e4, h4, h5⟩ := drawTake_mid r3 (by omega) (x := x) (has := has) hsb
      refine ⟨sent, n, ?_, h4, h5⟩
      rw [← e4]
      simp only [jn]
      rw [decide_eq_false h3, cond_false]
  by_cases h0 : 0 < x.Commits.length
  · obtain ⟨k, e3, k0, k1⟩ := pick_eq r2 (n := (x.Commits.length : Int)) (by omega) (by omega) (by omega)
    have r3 : RdOk ⟨b, q + 1⟩ (0 + 2001 + 1) := rd_on (r := ⟨b, q⟩) (q := 0 + 2001 + 1) r2 (k := 1) (by omega) (by omega)
    obtain ⟨sent, n, e4, h4, h5⟩ := rest (allA x k) (q + 1) _ (by have := allA_len x k; omega) r3 (by omega)
    refine ⟨x, allA x k, sent, n, ?_, hx, by have := allA_len x k; omega, h4, h5⟩
    rw [← e4]
    simp only [jn]
    simp only at e3
    rw [decide_eq_true (by omega), cond_true, e3, Option.bind_some]
    simp only
    rw [l8All_eq hx.ok k0 (by omega), Option.bind_some]
  · obtain ⟨sent, n, e4, h4, h5⟩ := rest [] q _ (by simp) r2 (by omega)
    refine ⟨x, [], sent, n, ?_, hx, by simp, h4, h5⟩
    rw [← e4]
    simp only [jn]
    rw [decide_eq_false (by omega), cond_false]

theorem sentL_at (has : List Int) (base : Nat) : ∀ (cs : List Commit) (i0 i : Nat), (sentL has base i0 cs)[i]? = (cs[i]?).map (toC has base (i0 + i))
  | [], i0, i => by simp [sentL]
  | c :: cs, i0, 0 => by simp [sentL]
  | c :: cs, i0, i + 1 => by
    simp only [sentL, List.getElem?_cons_succ]
    rw [sentL_at has base cs (i0 + 1) i, show i0 + 1 + i = i0 + (i + 1) by omega]
theorem takeR_rb {r : Repo} {has : List Int} {sent : List Commit} (hr : RpB r) (hok : repoB r = true) (hs : SentB sent) {n : Str} (hn : n.length ≤ 1048576) : RpB (takeR r has sent n) := by
  have h1 := repo_small hok
  have hl := hs.len
  exact (take_rb (has := has) hr (by omega) hs.cb).headR (show r.Heads.length ≤ 100000 by omega) hn _
theorem takeR_coms (r : Repo) (has : List Int) (sent : List Commit) (n : Str) : (takeR r has sent n).Commits = r.Commits ++ sentL has r.Commits.length 0 sent := rfl
theorem takeB_some {r : Repo} {has : List Int} {sent : List Commit} {n : Str} (h : (takeB r has sent n).2 = true) : takeB r has sent n = (takeR r has sent n, true) ∧ repoB (takeR r has sent n) = true ∧ repoB r = true := by
  unfold takeB at h ⊢
  cases hok : repoB r with
  | false => rw [hok] at h; cases h
  | true =>
    rw [hok, cond_true] at h
    cases hq : okS has 0 sent && (anyB r has && repoB (takeR r has sent n)) with
    | false => rw [hq] at h; cases h
    | true =>
      simp only [Bool.and_eq_true] at hq
      exact ⟨rfl, hq.2.2, rfl⟩
theorem takeB_none {r : Repo} {has : List Int} {sent : List Commit} {n : Str} (hok : repoB r = true) (h : (takeB r has sent n).2 = false) : (takeB r has sent n).1 = r := by
  unfold takeB at h ⊢
  rw [hok, cond_true] at h ⊢
  cases hq : okS has 0 sent && (anyB r has && repoB (takeR r has sent n)) with
  | false => rfl
  | true => rw [hq] at h; cases h
theorem end_up {r : Repo} {has : List Int} {sent : List Commit} {n : Str} (h : repoB (takeR r has sent n) = true) : 0 ≤ endAt has r.Commits.length sent.length := by
  have hm : (⟨n, endAt has r.Commits.length sent.length⟩ : Head) ∈ (takeR r has sent n).Heads := putH_in _ _ _
  exact (head_at h hm).1
theorem FnSendTake_eq {code : List Byte} (h : Bk.fit code) : laws_FnSendTake code = some true := by
  unfold laws_FnSendTake
  by_cases hc : (1048576 : Int) < (code.length : Int)
  · rw [decide_eq_true hc]; rfl
  obtain ⟨x, has, sent, n, e, hx, hl, hs, hn⟩ := drawSendTake_eq (code := code) (by omega)
  have hb := hx.rb
  have hok := hx.ok
  have hsm := repo_small hok
  have hsl := hs.len
  have hcm : x.Commits.length + sent.length ≤ 1048576 := by omega
  have hn' : n.length ≤ 1048576 := by omega
  have htr := takeR_rb (has := has) hb hok hs hn'
  rw [decide_eq_false hc, cond_false, e, Option.bind_some]
  simp only [repo_eta, iSendTake_eq hb (show has.length ≤ 1048576 by omega) hcm hs.cb hs.fit hn', sSendTake_eq hb (show has.length ≤ 1048576 by omega) hcm hs.cb hs.fit hn', Option.bind_some, jn, bne_self_eq_false, beq_self_eq_true, cond_false, cond_true, RepoOk_eq hb, hok, Bool.not_true]
  cases h2 : (takeB x has sent n).2 with
  | false =>
    rw [takeB_none hok h2]
    simp only [smRepo_eq hb, beq_self_eq_true, Option.bind_some, Bool.not_true, Bool.not_false, cond_false, cond_true]
  | true =>
    obtain ⟨h3, h4, _⟩ := takeB_some h2
    have eat : repoAt (takeR x has sent n) n = endAt has x.Commits.length sent.length := by
      unfold repoAt
      rw [h4, cond_true]
      exact at_headR h4
    have elen : (takeR x has sent n).Commits.length = x.Commits.length + sent.length := by rw [takeR_coms, List.length_append, sentL_len]
    rw [h3]
    simp only [smRepo_eq htr, beq_self_eq_true, Option.bind_some, Bool.not_true, cond_false, iRepoAt_eq htr, eat, fuel0]
    rw [loop_all (n := sent.length) (g := fun _ => true) (r0 := some false) (Z := some true) (f := fun m i => laws_FnSendTake_l1 (x, has, sent, n) (takeR x has sent n, true) _ m false i) (fun m i hi => by
      have hy : sent[i]? = some sent[i] := List.getElem?_eq_getElem hi
      have hcb := hs.cb _ (List.getElem_mem hi)
      have hz : (takeR x has sent n).Commits[x.Commits.length + i]? = some (toC has x.Commits.length i sent[i]) := by
        rw [takeR_coms, List.getElem?_append_right (by omega), show x.Commits.length + i - x.Commits.length = i by omega, sentL_at, hy, Nat.zero_add]
        rfl
      have ew : w64 ((x.Commits.length : Int) + (i : Int)) = ((x.Commits.length + i : Nat) : Int) := by rw [w64_id (by omega) (by omega)]; omega
      have e3 : (toC has x.Commits.length i sent[i]).Parents.length = sent[i].Parents.length := by simp [toC]
      simp only [laws_FnSendTake_l1, jn, lt_of hy, gi_of hy, ew, gi_of hz, cond_true, Option.bind_some, show (toC has x.Commits.length i sent[i]).Who = sent[i].Who from rfl, show (toC has x.Commits.length i sent[i]).Tree = sent[i].Tree from rfl, e3, bne_self_eq_false, cond_false, smTree_eq hcb.tree, beq_self_eq_true, Bool.not_true, w64_ix hi (show sent.length ≤ maxi by unfold maxi; omega)]) (fun m => by
      have hk : laws_smKeeps (takeR x has sent n) x = some true := smKeeps_eq hb (by rw [takeR_coms]; exact List.prefix_append _ _)
      have ew : w64 ((x.Commits.length : Int) + (sent.length : Int)) = ((x.Commits.length + sent.length : Nat) : Int) := by rw [w64_id (by omega) (by omega)]; omega
      have hend := end_up h4
      simp only [laws_FnSendTake_l1, end_of, cond_false, RepoOk_eq htr, h4, Option.bind_some, cond_true, hk, elen, ew, beq_self_eq_true]
      unfold endAt at hend ⊢
      by_cases h0 : sent.length = 0
      · rw [h0] at hend ⊢
        have d0 : decide ((0 : Int) < ((0 : Nat) : Int)) = false := rfl
        have b0 : ((((0 : Nat) : Int)) == (0 : Int)) = true := rfl
        rw [d0, cond_false, b0, cond_true]
        simp only [beq_self_eq_true, cond_true] at hend ⊢
        unfold firstI at hend ⊢
        cases hh : decide ((0 : Int) < (has.length : Int)) with
        | false => rw [hh, cond_false] at hend; omega
        | true =>
          have hp : 0 < has.length := by simpa using hh
          have := gi_getI hp
          have g0 : gi has 0 = some (has.getD 0 0) := this
          rw [g0]
          simp
      · have h1 : (sent.length == 0) = false := beq_false_of_ne h0
        have ew2 : w64 (((x.Commits.length + sent.length : Nat) : Int) - 1) = ((x.Commits.length + sent.length - 1 : Nat) : Int) := by rw [w64_id (by omega) (by omega)]; omega
        rw [h1, cond_false, decide_eq_true (show (0 : Int) < (sent.length : Int) by omega), cond_true, ew2, beq_self_eq_true, cond_true]) _ (by omega), allN_iff.2 (fun _ _ _ => rfl), cond_true]

section
variable {x : Repo} (hr : repoB x = true) {a b : Int} (ha : upB x.Commits.length a = true) (hb : upB x.Commits.length b = true)
include hr ha
include hb
end
end Go.Vm

namespace Go.Vm
open Go Go.Sx
set_option linter.unusedSimpArgs false
set_option linter.unusedVariables false

theorem AscI.lt {l : List Int} (h : AscI l) {i k : Nat} (hik : i < k) (hk : k < l.length) : l.getD i 0 < l.getD k 0 := by
  have h1 : i < l.length := by omega
  have := List.pairwise_iff_getElem.1 h i k h1 hk hik
  rw [getI_of (List.getElem?_eq_getElem h1), getI_of (List.getElem?_eq_getElem hk)]
  exact this
theorem AscI.inj {l : List Int} (h : AscI l) {i k : Nat} (hi : i < l.length) (hk : k < l.length) (e : l.getD i 0 = l.getD k 0) : i = k := by
  rcases Nat.lt_trichotomy i k with h1 | h1 | h1
  · have := h.lt h1 hk; omega
  · exact h1
  · have := h.lt h1 hi; omega
end Go.Vm
