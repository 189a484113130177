/- Plain law FnExactOwnerOf. Conditions: the law's own premises. -/
import Derived.Test.YtjdljoplpcakpaaDoorXQs
import Derived.Test.YtjdljoplpcakpaaDoorXX
namespace Go.Vm
open Go Go.Sx
set_option linter.unusedSimpArgs false
set_option linter.unusedVariables false

theorem le_less2 (a b : Str) : (Op.bytesLess a b || a == b) = !Op.bytesLess b a := by
  rw [less_iff, less_iff]
  by_cases h : b < a
  · have h1 : ¬ a < b := fun h2 => slt_irrefl a (slt_trans h2 h)
    have h2 : ¬ a = b := fun e => by rw [e] at h; exact slt_irrefl b h
    simp [h, h1, h2]
  · by_cases e : a = b
    · simp [h, e]
    · have := slt_of_le_ne (not_slt.1 h) e
      simp [h, this]
def noOwner : Owner := ⟨[], []⟩
def ordO (xs : List Owner) (i : Nat) : Bool := pathB (xs.getD i noOwner).Path && (nameB (xs.getD i noOwner).Who && (bif decide (0 < (i : Int)) then Op.bytesLess (xs.getD (i - 1) noOwner).Path (xs.getD i noOwner).Path else true))
def ownersB (xs : List Owner) : Bool := decide ((xs.length : Int) ≤ 5) && allN (ordO xs) 0 xs.length
theorem getO_of {xs : List Owner} {i : Nat} {x : Owner} (h : xs[i]? = some x) : xs.getD i noOwner = x := by simp [List.getD, h]
theorem prevO_at {xs : List Owner} {i : Nat} {x : Owner} (h : xs[i]? = some x) (hl : xs.length ≤ maxi) (h0 : (0 : Int) < (i : Int)) : ∃ y, gi xs (w64 ((i : Int) - 1)) = some y ∧ xs.getD (i - 1) noOwner = y := by
  have hi := ix_of h
  have e : w64 ((i : Int) - 1) = ((i - 1 : Nat) : Int) := by rw [w64_id (by omega) (by unfold maxi at hl; omega)]; omega
  have hx : xs[i - 1]? = some xs[i - 1] := List.getElem?_eq_getElem (by omega)
  exact ⟨_, by rw [e]; exact gi_of hx, getO_of hx⟩
/-- Owners whose texts are no longer than a law's arguments. -/
def OB (xs : List Owner) : Prop := xs.length ≤ 1048576 ∧ ∀ x ∈ xs, x.Path.length ≤ 1048576 ∧ x.Who.length ≤ 1048576
theorem OB.of {xs : List Owner} (h : Bk.bulk xs ≤ 1048576) : OB xs := ⟨bulk_len h, fun x hx => by
  have h1 : Bk.bulk x ≤ 1048576 := bulk_mem h hx
  have h2 : Bk.bulk x = x.Path.length + x.Who.length := rfl
  omega⟩
theorem OB.at_ {xs : List Owner} (h : OB xs) {i : Nat} {x : Owner} (hx : xs[i]? = some x) : x.Path.length ≤ 1048576 ∧ x.Who.length ≤ 1048576 := h.2 x (List.mem_of_getElem? hx)
theorem OwnersOk_eq {xs : List Owner} (h : OB xs) : impl_OwnersOk xs = some (ownersB xs) := by
  unfold impl_OwnersOk ownersB
  by_cases h5 : (5 : Int) < (xs.length : Int)
  · rw [decide_eq_true h5, decide_eq_false (by omega)]; rfl
  rw [decide_eq_false h5, decide_eq_true (by omega), cond_false, Bool.true_and]
  simp only [jn, fuel0]
  rw [loop_all (n := xs.length) (g := ordO xs) (r0 := some false) (Z := some true) (f := fun m i => impl_OwnersOk_l1 xs (fun _ _ => some true) m false i) (fun m i hi => by
    have hx : xs[i]? = some xs[i] := List.getElem?_eq_getElem hi
    obtain ⟨f1, f2⟩ := h.at_ hx
    simp only [impl_OwnersOk_l1, jn, lt_of hx, gi_of hx, cond_true, Option.bind_some, w64_ix hi (show xs.length ≤ maxi by unfold maxi; omega), PathOk_eq f1, nameOk_eq (to_maxi f2)]
    unfold ordO
    rw [getO_of hx]
    cases pathB xs[i].Path
    · rfl
    · cases nameB xs[i].Who
      · rfl
      · by_cases h0 : (0 : Int) < (i : Int)
        · obtain ⟨y, hy, ey⟩ := prevO_at hx (show xs.length ≤ maxi by unfold maxi; omega) h0
          rw [hy, ey, decide_eq_true h0]
          simp only [Option.bind_some]
          cases Op.bytesLess y.Path xs[i].Path <;> rfl
        · rw [decide_eq_false h0]; rfl) (fun m => by simp only [impl_OwnersOk_l1, end_of, cond_false]) _ (by omega)]
  cases allN (ordO xs) 0 xs.length <;> rfl
theorem l17Owners_eq {xs : List Owner} (h : OB xs) : spec_l17Owners xs = some (ownersB xs) := by
  have hm := to_maxi h.1
  unfold spec_l17Owners ownersB
  simp only [jn, fuel0]
  rw [loop_all (n := xs.length) (g := ordO xs) (r0 := some false) (Z := some (decide ((xs.length : Int) ≤ 5))) (f := fun m i => spec_l17Owners_l1 xs (fun _ _ => some (decide ((xs.length : Int) ≤ 5))) m false i) (fun m i hi => by
    have hx : xs[i]? = some xs[i] := List.getElem?_eq_getElem hi
    obtain ⟨f1, f2⟩ := h.at_ hx
    simp only [spec_l17Owners_l1, jn, lt_of hx, gi_of hx, cond_true, Option.bind_some, w64_ix hi hm, l4Path_eq f1, l4Name_eq (to_maxi f2)]
    unfold ordO
    rw [getO_of hx]
    cases pathB xs[i].Path
    · rfl
    · cases nameB xs[i].Who
      · rfl
      · by_cases h0 : (0 : Int) < (i : Int)
        · obtain ⟨y, hy, ey⟩ := prevO_at hx hm h0
          rw [hy, ey, decide_eq_true h0]
          simp only [Option.bind_some, le_less2]
          cases Op.bytesLess y.Path xs[i].Path <;> rfl
        · rw [decide_eq_false h0]; rfl) (fun m => by simp only [spec_l17Owners_l1, end_of, cond_false]) _ (by omega)]
  cases decide ((xs.length : Int) ≤ 5) <;> cases allN (ordO xs) 0 xs.length <;> rfl
theorem owners_at {xs : List Owner} (h : ownersB xs = true) {i : Nat} {x : Owner} (hx : xs[i]? = some x) : pathB x.Path = true := by
  unfold ownersB at h
  simp only [Bool.and_eq_true] at h
  have := allN_iff.1 h.2 i (Nat.zero_le _) (by have := ix_of hx; omega)
  unfold ordO at this
  rw [getO_of hx] at this
  simp only [Bool.and_eq_true] at this
  exact this.1
/-- It is below. -/
def belowB (d p : Str) : Bool := (d ++ [47]).isPrefixOf p
theorem PathIn_eq {d p : Str} (hd : d.length ≤ 1048576) (hp : p.length ≤ 1048576) (h1 : pathB d = true) (h2 : pathB p = true) : impl_PathIn d p = some (belowB d p) := by
  unfold impl_PathIn strings_HasPrefix belowB
  have hs : saM d ([47] : Str) = some (d ++ [47]) := by
    unfold saM
    rw [if_pos]
    simp only [List.length_cons, List.length_nil, lim]
    omega
  simp only [jn, PathOk_eq hd, PathOk_eq hp, h1, h2, Option.bind_some, cond_true, hs, Lib.hasPrefix]
theorem prefix_snoc {c : UInt8} : ∀ {d p : Str}, (d ++ [c]).isPrefixOf p = (p.take d.length == d && p[d.length]? == some c)
  | [], [] => by simp
  | [], x :: p => by
    by_cases e : c = x
    · subst e; simp [List.isPrefixOf]
    · have e1 : (c == x) = false := beq_false_of_ne e
      have e2 : ((some x : Option UInt8) == some c) = false := beq_false_of_ne (fun h => e (Option.some.inj h).symm)
      simp only [List.nil_append, List.isPrefixOf, e1, List.length_nil, List.take_zero, List.getElem?_cons_zero, e2, Bool.false_and, Bool.and_false]
  | y :: d, [] => by simp [List.isPrefixOf]
  | y :: d, x :: p => by
    have ih := prefix_snoc (c := c) (d := d) (p := p)
    simp only [List.cons_append, List.isPrefixOf, List.length_cons, List.take_succ_cons, List.getElem?_cons_succ, ih]
    by_cases e : y = x
    · subst e
      simp
    · have e1 : (y == x) = false := beq_false_of_ne e
      have e2 : (x == y) = false := beq_false_of_ne (fun h => e h.symm)
      simp [e1, e2]
theorem l4In_eq {d p : Str} (hp : p.length ≤ 1048576) : spec_l4In d p = some (belowB d p) := by
  unfold spec_l4In belowB
  simp only [jn]
  rw [prefix_snoc]
  by_cases hl : (d.length : Int) < (p.length : Int)
  · have hlt : d.length < p.length := by omega
    have hx : p[d.length]? = some p[d.length] := List.getElem?_eq_getElem hlt
    rw [decide_eq_true hl, cond_true, slM_take (by omega), Option.bind_some, hx]
    cases p.take d.length == d with
    | false => rfl
    | true =>
      rw [cond_true, chM_of hx, Option.bind_some, Bool.true_and]
      congr 1
      have := (show ∀ u : UInt8, (((UInt8.toNat u : Nat) : Int) == (47 : Int)) = (some u == some (47 : UInt8)) from fun u => by
        have hb := byte_eq u 47
        rw [show (((UInt8.toNat (47 : UInt8) : Nat) : Int)) = 47 from rfl] at hb
        rw [hb]
        simp)
      exact this _
  · rw [decide_eq_false hl, cond_false, List.getElem?_eq_none (by omega)]
    simp
/-- One owner more is looked at: the best till now, by its path's length and who it is. -/
def ownStep (path : Str) (b : Nat × Str) (x : Owner) : Nat × Str :=
  bif (x.Path == path || belowB x.Path path) && decide (b.1 < x.Path.length) then (x.Path.length, x.Who) else b
def whoB (xs : List Owner) (path : Str) : Str := (xs.foldl (ownStep path) (0, [])).2
theorem who_l1 {xs : List Owner} {path : Str} (hb : OB xs) (hp : path.length ≤ 1048576) {K : Str → Int → Int → Option Str} : ∀ (n i m : Nat) (b : Nat × Str), i + n = xs.length → n < m →
    spec_l17Who_l1 xs path K m b.2 (b.1 : Int) (i : Int) = K ((xs.drop i).foldl (ownStep path) b).2 (((xs.drop i).foldl (ownStep path) b).1 : Int) (xs.length : Int)
  | n, i, 0, b, _, hm => by omega
  | 0, i, m + 1, b, hi, _ => by
    obtain rfl : i = xs.length := by omega
    simp only [spec_l17Who_l1, end_of, cond_false, List.drop_length, List.foldl_nil]
  | n + 1, i, m + 1, b, hi, hm => by
    have hlt : i < xs.length := by omega
    have hx : xs[i]? = some xs[i] := List.getElem?_eq_getElem hlt
    have hd : xs.drop i = xs[i] :: xs.drop (i + 1) := List.drop_eq_getElem_cons hlt
    have hlt2 : decide ((b.1 : Int) < (xs[i].Path.length : Int)) = decide (b.1 < xs[i].Path.length) := by
      by_cases h : b.1 < xs[i].Path.length
      · rw [decide_eq_true h, decide_eq_true (by omega)]
      · rw [decide_eq_false h, decide_eq_false (by omega)]
    have ih := who_l1 hb hp (K := K) n (i + 1) m
    simp only [spec_l17Who_l1, jn, lt_of hx, gi_of hx, cond_true, Option.bind_some, l4In_eq hp, hlt2, w64_ix hlt (to_maxi hb.1)]
    rw [hd, List.foldl_cons]
    unfold ownStep
    cases (xs[i].Path == path) <;> cases belowB xs[i].Path path <;> cases decide (b.1 < xs[i].Path.length) <;> simp only [cond_true, cond_false, Bool.true_or, Bool.false_or, Bool.or_false, Bool.or_true, Bool.true_and, Bool.false_and, Bool.and_false]
    all_goals first | exact ih b (by omega) (by omega) | exact ih (xs[i].Path.length, xs[i].Who) (by omega) (by omega)
theorem own_l1 {xs : List Owner} {path : Str} (hb : OB xs) (hp : path.length ≤ 1048576) (hok : ownersB xs = true) (hpath : pathB path = true) {K : Int → Str → Str → Option Str} (hK : ∀ i a w, K i a w = some w) : ∀ (n i m : Nat) (bp : Str) (b : Nat × Str), i + n = xs.length → n < m → bp.length = b.1 →
    impl_OwnerOf_l1 xs path K m (i : Int) bp b.2 = some ((xs.drop i).foldl (ownStep path) b).2
  | n, i, 0, bp, b, _, hm, _ => by omega
  | 0, i, m + 1, bp, b, hi, _, _ => by
    obtain rfl : i = xs.length := by omega
    simp only [impl_OwnerOf_l1, end_of, cond_false, List.drop_length, List.foldl_nil, hK]
  | n + 1, i, m + 1, bp, b, hi, hm, hbp => by
    have hlt : i < xs.length := by omega
    have hx : xs[i]? = some xs[i] := List.getElem?_eq_getElem hlt
    have hd : xs.drop i = xs[i] :: xs.drop (i + 1) := List.drop_eq_getElem_cons hlt
    have hlt2 : decide ((bp.length : Int) < (xs[i].Path.length : Int)) = decide (b.1 < xs[i].Path.length) := by
      by_cases h : b.1 < xs[i].Path.length
      · rw [decide_eq_true h, decide_eq_true (by omega)]
      · rw [decide_eq_false h, decide_eq_false (by omega)]
    obtain ⟨f1, f2⟩ := hb.at_ hx
    have ih := own_l1 hb hp hok hpath hK n (i + 1) m
    simp only [impl_OwnerOf_l1, jn, lt_of hx, gi_of hx, cond_true, Option.bind_some, PathIn_eq f1 hp (owners_at hok hx) hpath, hlt2, w64_ix hlt (to_maxi hb.1)]
    rw [hd, List.foldl_cons]
    unfold ownStep
    cases (xs[i].Path == path) <;> cases belowB xs[i].Path path <;> cases decide (b.1 < xs[i].Path.length) <;> simp only [cond_true, cond_false, Bool.true_or, Bool.false_or, Bool.or_false, Bool.or_true, Bool.true_and, Bool.false_and, Bool.and_false]
    all_goals first | exact ih bp b (by omega) (by omega) hbp | exact ih xs[i].Path (xs[i].Path.length, xs[i].Who) (by omega) (by omega) rfl
def ownerB (xs : List Owner) (path : Str) : Str := bif ownersB xs && pathB path then whoB xs path else []
theorem sOwnerOf_eq {xs : List Owner} {path : Str} (hb : OB xs) (hp : path.length ≤ 1048576) : spec_OwnerOf xs path = some (ownerB xs path) := by
  unfold spec_OwnerOf ownerB
  simp only [jn, l17Owners_eq hb, l4Path_eq hp, Option.bind_some]
  cases ownersB xs
  · rfl
  cases pathB path
  · rfl
  simp only [Bool.not_true, cond_false, cond_true, Bool.true_and]
  unfold spec_l17Who
  simp only [jn, fuel0]
  have := who_l1 hb hp (K := fun y1 _ _ => some y1) xs.length 0 (xs.length + 1) (0, []) (by omega) (by omega)
  rw [show spec_l17Who_l1 xs path (fun y1 _ _ => some y1) (xs.length + 1) ([] : Str) 0 0 = _ from this]
  rfl
theorem iOwnerOf_eq {xs : List Owner} {path : Str} (hb : OB xs) (hp : path.length ≤ 1048576) : impl_OwnerOf xs path = some (ownerB xs path) := by
  unfold impl_OwnerOf ownerB
  simp only [jn, OwnersOk_eq hb, PathOk_eq hp, Option.bind_some]
  cases ho : ownersB xs
  · rfl
  cases hq : pathB path
  · rfl
  simp only [Bool.not_true, cond_false, cond_true, Bool.true_and, fuel0]
  exact own_l1 hb hp ho hq (K := fun _ _ y12 => some y12) (fun _ _ _ => rfl) xs.length 0 (xs.length + 1) [] (0, []) (by omega) (by omega) rfl
theorem FnExactOwnerOf_eq {xs : List Owner} {path : Str} (h : Bk.fit xs) (hp : Bk.fit path) : laws_FnExactOwnerOf xs path = some true := by
  unfold laws_FnExactOwnerOf
  by_cases hc : (1048576 : Int) < (path.length : Int)
  · rw [decide_eq_true hc]; rfl
  rw [decide_eq_false hc, cond_false, eszOwnerS h (by omega) (by omega), Option.bind_some]
  by_cases hb : (Bk.bulk xs : Int) ≤ 1048576
  case neg => rw [if_neg hb]; rfl
  rw [if_pos hb, decide_eq_false (by omega), cond_false]
  have b1 : Bk.bulk xs ≤ 1048576 := by omega
  have ob := OB.of b1
  simp only [etoOwnerS b1, Option.bind_some, sOwnerOf_eq ob (show path.length ≤ 1048576 by omega), iOwnerOf_eq ob (show path.length ≤ 1048576 by omega), bne_self_eq_false, cond_false, eeqOwnerS h, beq_self_eq_true, Bool.not_true]
end Go.Vm
