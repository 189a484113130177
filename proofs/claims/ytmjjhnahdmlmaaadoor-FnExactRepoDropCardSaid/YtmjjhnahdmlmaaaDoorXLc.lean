/- Rules of the walks: XLc. Conditions: each rule's own premises. -/
import Derived.Test.YtmjjhnahdmlmaaaDoorXLb
import Derived.Sort.Grow
import Derived.Shelf.Slices.CompactS
import Derived.Lib.SplitLaws
import Derived.Lib.IndexMore
import Derived.Lib.Join
import Derived.Lib.ItoaNum
import Derived.Below
namespace Go.Sx
open Go Go.RowKit Go.Sort Go.Proofs Go.Shelf Rp
set_option linter.unusedSimpArgs false
set_option linter.unusedVariables false
set_option linter.unusedSectionVars false

/-- Strings take one cell and own nothing. -/
class Sa [Rp Str] : Prop where
  sz : Rp.sz Str = 1
  own : ∀ {w : World} {A : Nat → Prop} {S : List Nat} {cs : List Value} {s : Str}, Rp.own w A S cs s ↔ S = [] ∧ cs = [vS s]
  rd : ∀ {w : World} {A : Nat → Prop} {cs : List Value} {s : Str}, Rp.rd w A cs s → cs = [vS s]
section
variable [Rp Str] [hS : Sa] {W : CW} {c : Nat} {v : Value} {xs : List Str}
theorem strs_own {W' : CW} {g cap : Nat} {cur : Array Value} {ys : List Str} (hg : W'.w.heap[g]? = some (.cells cur (Rp.ty Str) (0, 0))) (hc : W'.c g = c) (hl : ys.length ≤ cap) (hm : cap ≤ maxLen) (hs : cur.size = cap) (ht : cur.toList.take ys.length = ys.map vS) :
    Ow (α := List Str) W' c [] [.slice (some ⟨g, 0, none⟩) ys.length cap] ys := by
  have hf : ∀ l : List Str, (l.map fun s => [vS s]).flatten = l.map vS := by
    intro l
    induction l with
    | nil => rfl
    | cons a l ih => rw [List.map_cons, List.flatten_cons, ih]; rfl
  have hr : (List.replicate ys.length ([] : List Nat)).flatten = [] := by simp
  refine ⟨[g] ++ (List.replicate ys.length ([] : List Nat)).flatten, ⟨_, ys.map (fun s => [vS s]), List.replicate ys.length [], rfl, ⟨?_, .inr ⟨g, cap, cur, rfl, Nat.zero_le _, hg, hl, hm, by rw [hS.sz, Nat.mul_one]; exact hs, ?_⟩⟩, rfl, List.length_map .., List.length_replicate, fun i cs x T h1 h2 h3 => ?_⟩, ?_, fun b hb => ?_⟩
  · rw [hf, List.length_map, hS.sz, Nat.mul_one]
  · rw [hS.sz, Nat.mul_one, hf]; exact ht
  · refine hS.own.2 ⟨(List.mem_replicate.1 (List.mem_of_getElem? h3)).2, ?_⟩
    rw [List.getElem?_map, h2] at h1
    exact (Option.some.inj h1).symm
  · rw [hr, List.append_nil]; simp
  · rw [hr, List.append_nil, List.mem_singleton] at hb
    subst hb
    exact ⟨(Array.getElem?_eq_some_iff.1 hg).1, hc⟩
end
end Go.Sx

namespace Go.Sx
open Go Go.RowKit Go.Proofs Go.Shelf Rp
set_option linter.unusedSimpArgs false
set_option linter.unusedVariables false
set_option linter.unusedSectionVars false

/-- A number takes one cell. -/
class Ia [Rp Int] : Prop where
  one : ∀ {W : CW} {K : List Nat} {cs : List Value} {m : Int}, Rd W K cs m → cs = [vI m]
section
variable [Rp Str] [hS : Sa] [Rp Int] [hI : Ia] {W : CW} {K : List Nat} {g k : Nat} {P : Program} {f : FuncId}
theorem Gl.cell (h : Gl g W K) : ∃ m : Int, W.w.cell? ⟨g, 0, none⟩ = some (.int .i64 m) := by
  obtain ⟨m, _, cs, hc, hr⟩ := h
  have e := hI.one hr
  subst e
  have := hc 0 (vI m) rfl
  rw [show (⟨g, 0, none⟩ : Addr).add 0 = ⟨g, 0, none⟩ by simp [Addr.add]] at this
  exact ⟨m, this⟩
theorem split_pieces (s sep : ByteArray) (n : Nat) : (Lib.splitB sep 0 n s).map Value.string = (Lib.splitK sep.data.toList 0 n s.data.toList).map vS := by
  rw [← Lib.splitB_data, List.map_map]
  rfl
theorem split_call (hs : ∀ (s sep : ByteArray) (m : Int) (w : World), s.size < 4294967281 → w.cell? ⟨g, 0, none⟩ = some (.int .i64 m) → 1 ≤ sep.size →
      Calls P f #[.string s, .string sep] w fun e w' => e = .returned (.slice (some ⟨w.heap.size, 0, none⟩) (Lib.countB s sep + 1) (Lib.countB s sep + 1)) ∧ w' = w.alloc (.cells ((Lib.splitB sep 0 (Lib.countB s sep) s).map Value.string).toArray (Rp.ty Str)))
    (hG : Gl g W K) {a b : Str} {r : List Str} (hm : (if a.length ≤ 4294967000 ∧ 1 ≤ b.length then some (Go.Lib.split a b) else none) = some r) :
    CallR P f [vS a, vS b].toArray W.w (Res W [] fun W' u => ∃ u0 : Value, u = u0 ∧ Ow (α := List Str) W' k [] [u0] r) := by
  split at hm
  case isFalse => cases hm
  rename_i hl
  cases hm
  obtain ⟨m, hc⟩ := hG.cell
  have ha : (⟨a.toArray⟩ : ByteArray).size = a.length := by simp [ByteArray.size]
  have hb : (⟨b.toArray⟩ : ByteArray).size = b.length := by simp [ByteArray.size]
  refine Calls.mono (hs ⟨a.toArray⟩ ⟨b.toArray⟩ m W.w (by omega) hc (by omega)) fun e w' ⟨he, hw⟩ => ?_
  have hlen := Lib.splitB_all ⟨b.toArray⟩ (by omega) 0 _ ⟨a.toArray⟩ rfl
  have hle := Lib.countB_le ⟨b.toArray⟩ (by omega) _ ⟨a.toArray⟩ (Nat.le_refl _)
  have hp := split_pieces ⟨a.toArray⟩ ⟨b.toArray⟩ (Lib.countB ⟨a.toArray⟩ ⟨b.toArray⟩)
  have hsp : Lib.splitK (⟨b.toArray⟩ : ByteArray).data.toList 0 (Lib.countB ⟨a.toArray⟩ ⟨b.toArray⟩) (⟨a.toArray⟩ : ByteArray).data.toList = Lib.split a b := by
    simp [Lib.split, Lib.countB]
  rw [hsp] at hp
  have hn : (Lib.split a b).length = Lib.countB ⟨a.toArray⟩ ⟨b.toArray⟩ + 1 := by
    have := congrArg List.length hp
    simp only [List.length_map] at this
    omega
  refine ⟨_, he, W.new k (.cells ((Lib.splitB ⟨b.toArray⟩ 0 (Lib.countB ⟨a.toArray⟩ ⟨b.toArray⟩) ⟨a.toArray⟩).map Value.string).toArray (Rp.ty Str)), hw.symm, Le.new _ _, _, rfl, ?_⟩
  rw [← hn, hp]
  refine strs_own (g := W.w.heap.size) (cap := (Lib.split a b).length) (cur := ((Lib.split a b).map vS).toArray) (heap_alloc_new W.w _) (by simp [CW.new, Nat.beq_refl]) (Nat.le_refl _) (by unfold maxLen; omega) (by simp) ?_
  rw [List.take_of_length_le (by simp)]
theorem prefix_call (hs : ∀ (s p : ByteArray) (w : World), Calls P f #[.string s, .string p] w fun e w' => e = .returned (.bool (Lib.hasPrefix s.data.toList p.data.toList)) ∧ w' = w)
    {a b : Str} {r : Bool} (hm : some (Go.Lib.hasPrefix a b) = some r) : CallR P f [vS a, vS b].toArray W.w (Res W [] fun W' u => u = vB r) := by
  cases hm
  exact Calls.mono (hs ⟨a.toArray⟩ ⟨b.toArray⟩ W.w) fun e w' ⟨he, hw⟩ => ⟨_, he, W, hw.symm, Le.refl _ _, rfl⟩
end
end Go.Sx
