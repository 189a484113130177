/- Rules of the walks: XLc. Conditions: each rule's own premises. -/
import Derived.Test.YtmjjhnahdmlmaaaGreatDoorXLb
import Derived.Sort.Grow
import Derived.Shelf.Slices.CompactS
import Derived.Lib.SplitLaws
import Derived.Lib.IndexMore
import Derived.Lib.Join
import Derived.Lib.ItoaNum
import Derived.Below
namespace Go.Sx
open Go Go.RowKit Go.Sort Go.Proofs Go.Shelf Rp
set_option linter.unusedSimpArgs false
set_option linter.unusedVariables false
set_option linter.unusedSectionVars false

/-- Strings take one cell and own nothing. -/
class Sa [Rp Str] : Prop where
  sz : Rp.sz Str = 1
  own : ∀ {w : World} {A : Nat → Prop} {S : List Nat} {cs : List Value} {s : Str}, Rp.own w A S cs s ↔ S = [] ∧ cs = [vS s]
  rd : ∀ {w : World} {A : Nat → Prop} {cs : List Value} {s : Str}, Rp.rd w A cs s → cs = [vS s]
section
variable [Rp Str] [hS : Sa] {W : CW} {c : Nat} {v : Value} {xs : List Str}
/-- How an owned row of strings lies. -/
theorem Ow.strs (h : Ow (α := List Str) W c [] [v] xs) : (v = .slice none 0 0 ∧ xs = []) ∨ ∃ g cap cur, v = .slice (some ⟨g, 0, none⟩) xs.length cap ∧ g < W.w.heap.size ∧ W.c g = c ∧ W.w.heap[g]? = some (.cells cur (Rp.ty Str) (0, 0)) ∧ xs.length ≤ cap ∧ cap ≤ maxLen ∧ cur.size = cap ∧ cur.toList.take xs.length = xs.map vS := by
  obtain ⟨S, ⟨v', es, Ss, e, ho⟩, hn, hb⟩ := h
  simp only [List.cons.injEq, and_true] at e
  subst e
  have hcells : es.flatten = xs.map vS := by
    have key : ∀ (es : List (List Value)) (xs : List Str), es.length = xs.length → (∀ (i : Nat) cs x, es[i]? = some cs → xs[i]? = some x → cs = [vS x]) → es.flatten = xs.map vS := by
      intro es
      induction es with
      | nil => intro xs hl _; cases xs with
        | nil => rfl
        | cons x xs => simp at hl
      | cons a es ih =>
        intro xs hl h
        cases xs with
        | nil => simp at hl
        | cons x xs =>
          rw [List.flatten_cons, h 0 a x rfl rfl, ih xs (by simpa using hl) (fun i cs y h1 h2 => h (i + 1) cs y (by simpa using h1) (by simpa using h2))]
          rfl
    refine key es xs ho.elen (fun i cs x h1 h2 => ?_)
    have hi : i < Ss.length := by rw [ho.slen]; exact (List.getElem?_eq_some_iff.1 h2).1
    exact (hS.own.1 (ho.at_ i cs x Ss[i] h1 h2 (List.getElem?_eq_getElem hi))).2
  rcases ho.row.2 with ⟨rfl, hn0⟩ | ⟨g, cap, cur, rfl, _, hg, hnc, hcm, hcs, htake⟩
  · exact .inl ⟨rfl, List.eq_nil_of_length_eq_zero hn0⟩
  · have hgS : g ∈ S := by rw [ho.S]; simp [Value.ownBlock]
    refine .inr ⟨g, cap, cur, rfl, (hb g hgS).1, (hb g hgS).2, hg, hnc, hcm, ?_, ?_⟩
    · rw [hcs, hS.sz, Nat.mul_one]
    · rw [hS.sz, Nat.mul_one, hcells] at htake
      exact htake
theorem strs_own {W' : CW} {g cap : Nat} {cur : Array Value} {ys : List Str} (hg : W'.w.heap[g]? = some (.cells cur (Rp.ty Str) (0, 0))) (hc : W'.c g = c) (hl : ys.length ≤ cap) (hm : cap ≤ maxLen) (hs : cur.size = cap) (ht : cur.toList.take ys.length = ys.map vS) :
    Ow (α := List Str) W' c [] [.slice (some ⟨g, 0, none⟩) ys.length cap] ys := by
  have hf : ∀ l : List Str, (l.map fun s => [vS s]).flatten = l.map vS := by
    intro l
    induction l with
    | nil => rfl
    | cons a l ih => rw [List.map_cons, List.flatten_cons, ih]; rfl
  have hr : (List.replicate ys.length ([] : List Nat)).flatten = [] := by simp
  refine ⟨[g] ++ (List.replicate ys.length ([] : List Nat)).flatten, ⟨_, ys.map (fun s => [vS s]), List.replicate ys.length [], rfl, ⟨?_, .inr ⟨g, cap, cur, rfl, Nat.zero_le _, hg, hl, hm, by rw [hS.sz, Nat.mul_one]; exact hs, ?_⟩⟩, rfl, List.length_map .., List.length_replicate, fun i cs x T h1 h2 h3 => ?_⟩, ?_, fun b hb => ?_⟩
  · rw [hf, List.length_map, hS.sz, Nat.mul_one]
  · rw [hS.sz, Nat.mul_one, hf]; exact ht
  · refine hS.own.2 ⟨(List.mem_replicate.1 (List.mem_of_getElem? h3)).2, ?_⟩
    rw [List.getElem?_map, h2] at h1
    exact (Option.some.inj h1).symm
  · rw [hr, List.append_nil]; simp
  · rw [hr, List.append_nil, List.mem_singleton] at hb
    subst hb
    exact ⟨(Array.getElem?_eq_some_iff.1 hg).1, hc⟩
theorem strs_holds {w : World} {g : Nat} {cur : Array Value} {t : TypeId} (hg : w.heap[g]? = some (.cells cur t (0, 0))) (hl : xs.length ≤ cur.size) (ht : cur.toList.take xs.length = xs.map vS) : Holds encStr w g 0 xs.toArray := fun j hj => by
  simp only [List.size_toArray] at hj
  refine ⟨?_, by simp [World.frozen?, hg]⟩
  have h1 : (cur.toList.take xs.length)[j]? = (xs.map vS)[j]? := by rw [ht]
  rw [List.getElem?_take_of_lt hj, List.getElem?_map, List.getElem?_eq_getElem hj] at h1
  simp only [World.cell?, hg, Nat.zero_add]
  rw [← Array.getElem?_toList, h1, getElem!_pos _ j (by simpa using hj)]
  rfl
/-- What the row holds behind putRow. -/
theorem put_heap {w : World} {g : Nat} {cur : Array Value} {t : TypeId} {ys : List Str} (hg : w.heap[g]? = some (.cells cur t (0, 0))) (hl : ys.length ≤ cur.size) :
    ∃ cur', (putRow encStr w g 0 ys.toArray).heap[g]? = some (.cells cur' t (0, 0)) ∧ cur'.size = cur.size ∧ ∀ n, n ≤ ys.length → cur'.toList.take n = (ys.take n).map vS := by
  refine ⟨putCells encStr 0 ys.toArray cur, ?_, by simp [putCells], fun n hn => ?_⟩
  · unfold putRow mapBlock
    simp [Array.getElem?_modify, hg, onCells]
  · apply List.ext_getElem?
    intro j
    rw [List.getElem?_take, List.getElem?_map, List.getElem?_take]
    by_cases hj : j < n
    · rw [if_pos hj, if_pos hj, Array.getElem?_toList]
      unfold putCells
      rw [Array.getElem?_mapIdx, Array.getElem?_eq_getElem (show j < cur.size by omega), List.getElem?_eq_getElem (show j < ys.length by omega)]
      simp only [Option.map_some, Nat.zero_le, Nat.zero_add, Nat.sub_zero, true_and, List.size_toArray]
      rw [if_pos (by omega), getElem!_pos _ j (by simpa using (show j < ys.length by omega))]
      rfl
    · rw [if_neg hj, if_neg hj]; rfl
theorem put_other {w : World} {g b : Nat} {ys : List Str} (h : b ≠ g) : (putRow encStr w g 0 ys.toArray).heap[b]? = w.heap[b]? := by
  unfold putRow mapBlock
  simp [Array.getElem?_modify, Ne.symm h]

theorem sortStr_len (xs : List Str) : (sortStr xs).length = xs.length := List.length_mergeSort _
/-- slices.Sort, by the shelf's contract. -/
theorem sort_call {P : Program} {f : FuncId} (hs : ∀ (blk off cap : Nat) (ss : List (List UInt8)) (w : World), Holds encStr w blk off ss.toArray → blk < w.heap.size → ss.length < 4611686018427387904 →
      Calls P f #[.slice (some ⟨blk, off, none⟩) ss.length cap] w fun e w' => e = .returned (.tuple #[]) ∧ ∃ n os, w' = grow (putRow encStr (Sort.ahead w n) blk off (ss.mergeSort fun x y => decide (x ≤ y)).toArray) os)
    (hn : ∀ (p : Option Addr) (cap : Nat) (w : World), Calls P f #[.slice p 0 cap] w fun e w' => e = .returned (.tuple #[]) ∧ w' = w)
    (h : Ow (α := List Str) W c [] [v] xs) {r : List Str} (hm : (if xs.length ≤ 4294967296 then some (sortStr xs) else none) = some r) : CallR P f [v].toArray W.w (Res W [c] fun W' u => u = .tuple #[] ∧ Ow (α := List Str) W' c [] [v] r) := by
  split at hm
  case isFalse => cases hm
  rename_i hl
  cases hm
  rcases h.strs with ⟨rfl, rfl⟩ | ⟨g, cap, cur, rfl, hgs, hgc, hg, hlc, hcm, hcs, ht⟩
  · have h0 : sortStr ([] : List Str) = [] := List.eq_nil_of_length_eq_zero (sortStr_len [])
    rw [h0]
    exact Calls.mono (hn none 0 W.w) fun e w' ⟨he, hw⟩ => ⟨_, he, W, hw.symm, Le.refl _ _, rfl, h⟩
  · refine Calls.mono (hs g 0 cap xs W.w (strs_holds hg (by omega) ht) hgs (by omega)) fun e w' ⟨he, n, os, hw⟩ => ?_
    obtain ⟨cur', h1, h2, h3⟩ := put_heap (ys := sortStr xs) (w := Sort.ahead W.w n) (g := g) hg (by rw [sortStr_len]; omega)
    have hsz : (putRow encStr (Sort.ahead W.w n) g 0 (sortStr xs).toArray).heap.size = W.w.heap.size := by simp
    have hold : ∀ b, b < W.w.heap.size → w'.heap[b]? = (putRow encStr (Sort.ahead W.w n) g 0 (sortStr xs).toArray).heap[b]? := fun b hb => by
      rw [hw]
      unfold grow
      show (_ ++ os)[b]? = _
      rw [Array.getElem?_append_left (by rw [show (xs.mergeSort fun x y => decide (x ≤ y)) = sortStr xs from rfl, hsz]; exact hb)]
      rfl
    let W' : CW := ⟨w', fun b => if b < W.w.heap.size then W.c b else 1⟩
    refine ⟨_, he, W', rfl, ⟨by show w'.os = _; rw [hw]; rfl, by show w'.tape = _; rw [hw]; rfl, by show w'.output = _; rw [hw]; rfl, by show _ ≤ w'.heap.size; rw [hw]; simp, fun b hb hc => ⟨?_, if_pos hb⟩⟩, rfl, ?_⟩
    · show w'.heap[b]? = _
      rw [hold b hb]
      have hne : b ≠ g := fun e => hc (by rw [e, hgc]; simp)
      exact (put_other (w := Sort.ahead W.w n) hne).trans rfl
    · have := strs_own (W' := W') (c := c) (g := g) (cap := cap) (cur := cur') (ys := sortStr xs) (by show w'.heap[g]? = _; rw [hold g hgs]; exact h1) (by show (if g < W.w.heap.size then W.c g else 1) = c; rw [if_pos hgs]; exact hgc) (by rw [sortStr_len]; exact hlc) hcm (by omega) (by rw [h3 _ (Nat.le_refl _), List.take_length])
      rw [sortStr_len] at this
      exact this
theorem dedupF_keeps (zs : List Str) : ∀ (k i : Nat), i + k = zs.length → ((List.range' i k).filter (Lib.keeps zs.toArray)).map (zs.toArray[·]!) = dedupF (if i = 0 then none else zs[i - 1]?) (zs.drop i)
  | 0, i, h => by rw [List.drop_eq_nil_of_le (by omega)]; rfl
  | k + 1, i, h => by
    have hi : i < zs.length := by omega
    have ih := dedupF_keeps zs k (i + 1) (by omega)
    have hd : zs.toArray[i]! = zs[i] := by rw [getElem!_pos _ i (by simpa using hi)]; simp
    rw [List.range'_succ, List.filter_cons, List.drop_eq_getElem_cons hi]
    rw [if_neg (by omega), Nat.add_sub_cancel, List.getElem?_eq_getElem hi] at ih
    by_cases h0 : i = 0
    · subst h0
      rw [if_pos (by simp [Lib.keeps]), List.map_cons, ih, if_pos rfl, hd]
      simp [dedupF]
    · have hp : zs.toArray[i - 1]! = zs[i - 1] := by rw [getElem!_pos _ (i - 1) (by simpa using (show i - 1 < zs.length by omega))]; simp
      rw [if_neg h0, List.getElem?_eq_getElem (by omega)]
      by_cases he : zs[i - 1] = zs[i]
      · rw [if_neg (by simp [Lib.keeps, h0, hd, hp, he]), ih]
        simp [dedupF, he]
      · rw [if_pos (by simp [Lib.keeps, h0, hd, hp, Ne.symm he]), List.map_cons, ih, hd]
        simp [dedupF, he]
theorem compact_dedup (zs : List Str) : Lib.compact zs = dedup zs := by
  have := dedupF_keeps zs zs.length 0 (by omega)
  unfold Lib.compact Lib.compactUpTo dedup
  rw [List.range_eq_range', this]
  rfl
theorem dedupF_len : ∀ (zs : List Str) (p : Option Str), (dedupF p zs).length ≤ zs.length
  | [], p => by simp [dedupF]
  | x :: l, p => by
    have := dedupF_len l (some x)
    unfold dedupF
    split <;> simp <;> omega
/-- slices.Compact, by the shelf's contract. -/
theorem compact_call {P : Program} {f : FuncId} {k : Nat} (hs : ∀ (blk off cap : Nat) (zs : List (List UInt8)) (w : World), Holds encStr w blk off zs.toArray → zs.length ≤ 9223372036854775807 → zs.length ≤ cap →
      Calls P f #[.slice (some ⟨blk, off, none⟩) zs.length cap] w fun e w' => e = .returned (.slice (some ⟨blk, off, none⟩) (Lib.compact zs).length cap) ∧ ∃ q, w' = putRow encStr (Sort.ahead w q) blk off (Lib.compact zs ++ List.replicate (zs.length - (Lib.compact zs).length) []).toArray)
    (hn : ∀ (a : Option Addr) (cap : Nat) (w : World), Calls P f #[.slice a 0 cap] w fun e w' => e = .returned (.slice a 0 cap) ∧ w' = w)
    (h : Ow (α := List Str) W c [] [v] xs) {r : List Str} (hm : (if xs.length ≤ 4294967296 then some (dedup xs) else none) = some r) : CallR P f [v].toArray W.w (Res W [c] fun W' u => ∃ u0 : Value, u = u0 ∧ Ow (α := List Str) W' k [] [u0] r) := by
  have hlen : ∀ zs : List Str, (Lib.compact zs).length ≤ zs.length := fun zs => by rw [compact_dedup]; exact dedupF_len zs none
  rw [← compact_dedup] at hm
  split at hm
  case isFalse => cases hm
  rename_i hl
  cases hm
  rcases h.strs with ⟨rfl, rfl⟩ | ⟨g, cap, cur, rfl, hgs, hgc, hg, hlc, hcm, hcs, ht⟩
  · have hc0 : (Lib.compact ([] : List Str)) = [] := List.eq_nil_of_length_eq_zero (by have := hlen []; simpa using this)
    refine Calls.mono (hn none 0 W.w) fun e w' ⟨he, hw⟩ => ⟨_, he, W, hw.symm, Le.refl _ _, _, rfl, ?_⟩
    rw [hc0]
    exact Ow.zr (α := List Str) k []
  · refine Calls.mono (hs g 0 cap xs W.w (strs_holds hg (by omega) ht) (by omega) hlc) fun e w' ⟨he, q, hw⟩ => ?_
    have hll : (Lib.compact xs ++ List.replicate (xs.length - (Lib.compact xs).length) []).length = xs.length := by have := hlen xs; simp; omega
    obtain ⟨cur', h1, h2, h3⟩ := put_heap (ys := Lib.compact xs ++ List.replicate (xs.length - (Lib.compact xs).length) []) (w := Sort.ahead W.w q) (g := g) hg (by rw [hll]; omega)
    let W' : CW := ⟨w', fun b => bif Nat.beq b g then k else W.c b⟩
    refine ⟨_, he, W', rfl, ⟨by show w'.os = _; rw [hw]; rfl, by show w'.tape = _; rw [hw]; rfl, by show w'.output = _; rw [hw]; rfl, by show _ ≤ w'.heap.size; rw [hw]; simp, fun b hb hc => ?_⟩, _, rfl, ?_⟩
    · have hne : b ≠ g := fun e => hc (by rw [e, hgc]; simp)
      have hbe : Nat.beq b g = false := by cases hx : Nat.beq b g with
        | false => rfl
        | true => exact absurd (Nat.eq_of_beq_eq_true hx) hne
      refine ⟨?_, by show (bif Nat.beq b g then k else W.c b) = _; rw [hbe]; rfl⟩
      show w'.heap[b]? = _
      rw [hw]
      exact (put_other (w := Sort.ahead W.w q) hne).trans rfl
    · refine strs_own (W' := W') (c := k) (g := g) (cap := cap) (cur := cur') (ys := Lib.compact xs) (by show w'.heap[g]? = _; rw [hw]; exact h1) (by show (bif Nat.beq g g then k else W.c g) = k; rw [Nat.beq_refl]; rfl) (by have := hlen xs; omega) hcm (by omega) ?_
      rw [h3 _ (by rw [hll]; exact hlen xs), List.take_left' rfl]
end
end Go.Sx

namespace Go.Sx
open Go Go.RowKit Go.Proofs Go.Shelf Rp
set_option linter.unusedSimpArgs false
set_option linter.unusedVariables false
set_option linter.unusedSectionVars false

/-- A number takes one cell. -/
class Ia [Rp Int] : Prop where
  one : ∀ {W : CW} {K : List Nat} {cs : List Value} {m : Int}, Rd W K cs m → cs = [vI m]
section
variable [Rp Str] [hS : Sa] [Rp Int] [hI : Ia] {W : CW} {K : List Nat} {g k : Nat} {P : Program} {f : FuncId}
theorem Gl.cell (h : Gl g W K) : ∃ m : Int, W.w.cell? ⟨g, 0, none⟩ = some (.int .i64 m) := by
  obtain ⟨m, _, cs, hc, hr⟩ := h
  have e := hI.one hr
  subst e
  have := hc 0 (vI m) rfl
  rw [show (⟨g, 0, none⟩ : Addr).add 0 = ⟨g, 0, none⟩ by simp [Addr.add]] at this
  exact ⟨m, this⟩
theorem str_back (x : ByteArray) : vS x.data.toList = .string x := rfl
theorem split_pieces (s sep : ByteArray) (n : Nat) : (Lib.splitB sep 0 n s).map Value.string = (Lib.splitK sep.data.toList 0 n s.data.toList).map vS := by
  rw [← Lib.splitB_data, List.map_map]
  rfl
theorem split_call (hs : ∀ (s sep : ByteArray) (m : Int) (w : World), s.size < 4294967281 → w.cell? ⟨g, 0, none⟩ = some (.int .i64 m) → 1 ≤ sep.size →
      Calls P f #[.string s, .string sep] w fun e w' => e = .returned (.slice (some ⟨w.heap.size, 0, none⟩) (Lib.countB s sep + 1) (Lib.countB s sep + 1)) ∧ w' = w.alloc (.cells ((Lib.splitB sep 0 (Lib.countB s sep) s).map Value.string).toArray (Rp.ty Str)))
    (hG : Gl g W K) {a b : Str} {r : List Str} (hm : (if a.length ≤ 4294967000 ∧ 1 ≤ b.length then some (Go.Lib.split a b) else none) = some r) :
    CallR P f [vS a, vS b].toArray W.w (Res W [] fun W' u => ∃ u0 : Value, u = u0 ∧ Ow (α := List Str) W' k [] [u0] r) := by
  split at hm
  case isFalse => cases hm
  rename_i hl
  cases hm
  obtain ⟨m, hc⟩ := hG.cell
  have ha : (⟨a.toArray⟩ : ByteArray).size = a.length := by simp [ByteArray.size]
  have hb : (⟨b.toArray⟩ : ByteArray).size = b.length := by simp [ByteArray.size]
  refine Calls.mono (hs ⟨a.toArray⟩ ⟨b.toArray⟩ m W.w (by omega) hc (by omega)) fun e w' ⟨he, hw⟩ => ?_
  have hlen := Lib.splitB_all ⟨b.toArray⟩ (by omega) 0 _ ⟨a.toArray⟩ rfl
  have hle := Lib.countB_le ⟨b.toArray⟩ (by omega) _ ⟨a.toArray⟩ (Nat.le_refl _)
  have hp := split_pieces ⟨a.toArray⟩ ⟨b.toArray⟩ (Lib.countB ⟨a.toArray⟩ ⟨b.toArray⟩)
  have hsp : Lib.splitK (⟨b.toArray⟩ : ByteArray).data.toList 0 (Lib.countB ⟨a.toArray⟩ ⟨b.toArray⟩) (⟨a.toArray⟩ : ByteArray).data.toList = Lib.split a b := by
    simp [Lib.split, Lib.countB]
  rw [hsp] at hp
  have hn : (Lib.split a b).length = Lib.countB ⟨a.toArray⟩ ⟨b.toArray⟩ + 1 := by
    have := congrArg List.length hp
    simp only [List.length_map] at this
    omega
  refine ⟨_, he, W.new k (.cells ((Lib.splitB ⟨b.toArray⟩ 0 (Lib.countB ⟨a.toArray⟩ ⟨b.toArray⟩) ⟨a.toArray⟩).map Value.string).toArray (Rp.ty Str)), hw.symm, Le.new _ _, _, rfl, ?_⟩
  rw [← hn, hp]
  refine strs_own (g := W.w.heap.size) (cap := (Lib.split a b).length) (cur := ((Lib.split a b).map vS).toArray) (heap_alloc_new W.w _) (by simp [CW.new, Nat.beq_refl]) (Nat.le_refl _) (by unfold maxLen; omega) (by simp) ?_
  rw [List.take_of_length_le (by simp)]
theorem contains_call (hs : ∀ (s sub : ByteArray) (m : Int) (w : World), s.size < 4294967281 → w.cell? ⟨g, 0, none⟩ = some (.int .i64 m) →
      Calls P f #[.string s, .string sub] w fun e w' => e = .returned (.bool (Lib.contains s.data.toList sub.data.toList)) ∧ w' = w)
    (hG : Gl g W K) {a b : Str} {r : Bool} (hm : (if a.length ≤ 4294967000 then some (Go.Lib.contains a b) else none) = some r) :
    CallR P f [vS a, vS b].toArray W.w (Res W [] fun W' u => u = vB r) := by
  split at hm
  case isFalse => cases hm
  rename_i hl
  cases hm
  obtain ⟨m, hc⟩ := hG.cell
  have ha : (⟨a.toArray⟩ : ByteArray).size = a.length := by simp [ByteArray.size]
  refine Calls.mono (hs ⟨a.toArray⟩ ⟨b.toArray⟩ m W.w (by omega) hc) fun e w' ⟨he, hw⟩ => ⟨_, he, W, hw.symm, Le.refl _ _, rfl⟩
theorem prefix_call (hs : ∀ (s p : ByteArray) (w : World), Calls P f #[.string s, .string p] w fun e w' => e = .returned (.bool (Lib.hasPrefix s.data.toList p.data.toList)) ∧ w' = w)
    {a b : Str} {r : Bool} (hm : some (Go.Lib.hasPrefix a b) = some r) : CallR P f [vS a, vS b].toArray W.w (Res W [] fun W' u => u = vB r) := by
  cases hm
  exact Calls.mono (hs ⟨a.toArray⟩ ⟨b.toArray⟩ W.w) fun e w' ⟨he, hw⟩ => ⟨_, he, W, hw.symm, Le.refl _ _, rfl⟩
theorem join_call (hs : ∀ (bk o c : Nat) (xs : List ByteArray) (sep : ByteArray) (w : World), (∀ (j : Nat) x, xs[j]? = some x → w.cell? ⟨bk, o + j, none⟩ = some (.string x)) → bk < w.heap.size → xs.length ≤ 140737488355328 → xs.length ≤ c → (Lib.join (xs.map (·.data.toList)) sep.data.toList).length ≤ 140737488355328 →
      Calls P f #[.slice (some ⟨bk, o, none⟩) xs.length c, .string sep] w fun e w' => e = .returned (.string ⟨(Lib.join (xs.map (·.data.toList)) sep.data.toList).toArray⟩) ∧ Below w.heap.size w w')
    (hn : ∀ (a : Option Addr) (c : Nat) (sep : ByteArray) (w : World), Calls P f #[.slice a 0 c, .string sep] w fun e w' => e = .returned (.string ⟨#[]⟩) ∧ w' = w)
    {v : Value} {xs : List Str} {b r : Str} (h : Rd W K [v] xs) (hm : (if xs.length ≤ 4294967000 ∧ (Go.Lib.join xs b).length ≤ 4294967000 then some (Go.Lib.join xs b) else none) = some r) :
    CallR P f [v, vS b].toArray W.w (Res W [] fun W' u => u = vS r) := by
  split at hm
  case isFalse => cases hm
  rename_i hl
  cases hm
  obtain ⟨ad, cap, e, hc, hcm, ha, hx⟩ := h
  simp only [List.cons.injEq, and_true] at e
  subst e
  cases xs with
  | nil => exact Calls.mono (hn ad cap ⟨b.toArray⟩ W.w) fun e w' ⟨he, hw⟩ => ⟨_, he, W, hw.symm, Le.refl _ _, rfl⟩
  | cons x t =>
    obtain ⟨a, rfl, hb⟩ := ha (by simp)
    have hcell : ∀ (j : Nat) y, (x :: t)[j]? = some y → W.w.cell? (a.add j) = some (vS y) := fun j y hy => by
      obtain ⟨ecs, h1, h2⟩ := hx j y hy
      have e := hS.rd h2
      subst e
      have := h1 0 (vS y) rfl
      rw [hS.sz, Nat.mul_one] at this
      rw [show ((slA (.slice (some a) (x :: t).length cap)).add j).add 0 = a.add j by simp [Addr.add, slA]] at this
      exact this
    have hspot : a.spot = none := by
      have h0 := hcell 0 x rfl
      rw [show a.add 0 = a by simp [Addr.add]] at h0
      unfold World.cell? at h0
      cases hsp : a.spot with
      | none => rfl
      | some k =>
        rw [hsp] at h0
        split at h0
        · simp at h0
        · cases h0
    obtain ⟨blk, off, spot⟩ := a
    simp only at hspot
    subst hspot
    have hadd : ∀ j, (⟨blk, off, none⟩ : Addr).add j = ⟨blk, off + j, none⟩ := fun j => by
      unfold Addr.add
      split
      · rename_i h; rw [h]; rfl
      · rfl
    have hback : ((x :: t).map fun s : Str => (⟨s.toArray⟩ : ByteArray)).map (·.data.toList) = x :: t := by
      rw [List.map_map]
      exact List.map_id _
    have hlen : ((x :: t).map fun s : Str => (⟨s.toArray⟩ : ByteArray)).length = (x :: t).length := List.length_map ..
    have key := hs blk off cap ((x :: t).map fun s : Str => (⟨s.toArray⟩ : ByteArray)) ⟨b.toArray⟩ W.w (fun j y hy => by
      rw [List.getElem?_map] at hy
      cases hj : (x :: t)[j]? with
      | none => rw [hj] at hy; cases hy
      | some z =>
        rw [hj] at hy
        cases hy
        rw [← hadd]
        exact hcell j z hj) hb.1 (by rw [hlen]; omega) (by rw [hlen]; exact hc) (by rw [hback]; show (Lib.join (x :: t) b).length ≤ _; omega)
    rw [hlen, hback] at key
    refine Calls.mono key fun e w' ⟨he, bel⟩ => ?_
    refine ⟨_, he, ⟨w', fun i => if i < W.w.heap.size then W.c i else 1⟩, rfl, ⟨bel.os, bel.tape, bel.output, bel.size, fun i hi _ => ⟨bel.block i hi, if_pos hi⟩⟩, rfl⟩
theorem itoa_call (hs : ∀ (i : Nat), i < 100 → ∀ (w : World), Calls P f #[.int .i64 i] w fun e w' => e = .returned (.string ⟨(Lib.decDigits i).toArray⟩) ∧ w' = w)
    {a : Int} {r : Str} (hm : (if 0 ≤ a ∧ a < 100 then some (Go.Lib.decDigits a.toNat) else none) = some r) : CallR P f [vI a].toArray W.w (Res W [] fun W' u => u = vS r) := by
  split at hm
  case isFalse => cases hm
  rename_i hl
  cases hm
  have key := hs a.toNat (by omega) W.w
  rw [Int.toNat_of_nonneg hl.1] at key
  exact Calls.mono key fun e w' ⟨he, hw⟩ => ⟨_, he, W, hw.symm, Le.refl _ _, rfl⟩
end
end Go.Sx
