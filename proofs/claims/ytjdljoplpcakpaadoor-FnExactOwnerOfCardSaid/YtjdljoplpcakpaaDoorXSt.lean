/- strings.Split, Contains, HasPrefix, as the shelf tells them. Conditions: none; each rule's own premises. -/
import Derived.Test.YtjdljoplpcakpaaDoorXSs
import Derived.Lib.SplitLaws
import Derived.Lib.IndexMore
namespace Go.Sx
open Go Go.RowKit Go.Proofs Go.Shelf Rp
set_option linter.unusedSimpArgs false
set_option linter.unusedVariables false
set_option linter.unusedSectionVars false

/-- A number takes one cell. -/
class Ia [Rp Int] : Prop where
  one : ∀ {W : CW} {K : List Nat} {cs : List Value} {m : Int}, Rd W K cs m → cs = [vI m]
section
variable [Rp Str] [hS : Sa] [Rp Int] [hI : Ia] {W : CW} {K : List Nat} {g k : Nat} {P : Program} {f : FuncId}
theorem Gl.cell (h : Gl g W K) : ∃ m : Int, W.w.cell? ⟨g, 0, none⟩ = some (.int .i64 m) := by
  obtain ⟨m, _, cs, hc, hr⟩ := h
  have e := hI.one hr
  subst e
  have := hc 0 (vI m) rfl
  rw [show (⟨g, 0, none⟩ : Addr).add 0 = ⟨g, 0, none⟩ by simp [Addr.add]] at this
  exact ⟨m, this⟩
theorem str_back (x : ByteArray) : vS x.data.toList = .string x := rfl
theorem split_pieces (s sep : ByteArray) (n : Nat) : (Lib.splitB sep 0 n s).map Value.string = (Lib.splitK sep.data.toList 0 n s.data.toList).map vS := by
  rw [← Lib.splitB_data, List.map_map]
  rfl
theorem split_call (hs : ∀ (s sep : ByteArray) (m : Int) (w : World), s.size < 4294967281 → w.cell? ⟨g, 0, none⟩ = some (.int .i64 m) → 1 ≤ sep.size →
      Calls P f #[.string s, .string sep] w fun e w' => e = .returned (.slice (some ⟨w.heap.size, 0, none⟩) (Lib.countB s sep + 1) (Lib.countB s sep + 1)) ∧ w' = w.alloc (.cells ((Lib.splitB sep 0 (Lib.countB s sep) s).map Value.string).toArray (Rp.ty Str)))
    (hG : Gl g W K) {a b : Str} {r : List Str} (hm : (if a.length ≤ 4294967000 ∧ 1 ≤ b.length then some (Go.Lib.split a b) else none) = some r) :
    CallR P f [vS a, vS b].toArray W.w (Res W [] fun W' u => ∃ u0 : Value, u = u0 ∧ Ow (α := List Str) W' k [] [u0] r) := by
  split at hm
  case isFalse => cases hm
  rename_i hl
  cases hm
  obtain ⟨m, hc⟩ := hG.cell
  have ha : (⟨a.toArray⟩ : ByteArray).size = a.length := by simp [ByteArray.size]
  have hb : (⟨b.toArray⟩ : ByteArray).size = b.length := by simp [ByteArray.size]
  refine Calls.mono (hs ⟨a.toArray⟩ ⟨b.toArray⟩ m W.w (by omega) hc (by omega)) fun e w' ⟨he, hw⟩ => ?_
  have hlen := Lib.splitB_all ⟨b.toArray⟩ (by omega) 0 _ ⟨a.toArray⟩ rfl
  have hle := Lib.countB_le ⟨b.toArray⟩ (by omega) _ ⟨a.toArray⟩ (Nat.le_refl _)
  have hp := split_pieces ⟨a.toArray⟩ ⟨b.toArray⟩ (Lib.countB ⟨a.toArray⟩ ⟨b.toArray⟩)
  have hsp : Lib.splitK (⟨b.toArray⟩ : ByteArray).data.toList 0 (Lib.countB ⟨a.toArray⟩ ⟨b.toArray⟩) (⟨a.toArray⟩ : ByteArray).data.toList = Lib.split a b := by
    simp [Lib.split, Lib.countB]
  rw [hsp] at hp
  have hn : (Lib.split a b).length = Lib.countB ⟨a.toArray⟩ ⟨b.toArray⟩ + 1 := by
    have := congrArg List.length hp
    simp only [List.length_map] at this
    omega
  refine ⟨_, he, W.new k (.cells ((Lib.splitB ⟨b.toArray⟩ 0 (Lib.countB ⟨a.toArray⟩ ⟨b.toArray⟩) ⟨a.toArray⟩).map Value.string).toArray (Rp.ty Str)), hw.symm, Le.new _ _, _, rfl, ?_⟩
  rw [← hn, hp]
  refine strs_own (g := W.w.heap.size) (cap := (Lib.split a b).length) (cur := ((Lib.split a b).map vS).toArray) (heap_alloc_new W.w _) (by simp [CW.new, Nat.beq_refl]) (Nat.le_refl _) (by unfold maxLen; omega) (by simp) ?_
  rw [List.take_of_length_le (by simp)]
theorem contains_call (hs : ∀ (s sub : ByteArray) (m : Int) (w : World), s.size < 4294967281 → w.cell? ⟨g, 0, none⟩ = some (.int .i64 m) →
      Calls P f #[.string s, .string sub] w fun e w' => e = .returned (.bool (Lib.contains s.data.toList sub.data.toList)) ∧ w' = w)
    (hG : Gl g W K) {a b : Str} {r : Bool} (hm : (if a.length ≤ 4294967000 then some (Go.Lib.contains a b) else none) = some r) :
    CallR P f [vS a, vS b].toArray W.w (Res W [] fun W' u => u = vB r) := by
  split at hm
  case isFalse => cases hm
  rename_i hl
  cases hm
  obtain ⟨m, hc⟩ := hG.cell
  have ha : (⟨a.toArray⟩ : ByteArray).size = a.length := by simp [ByteArray.size]
  refine Calls.mono (hs ⟨a.toArray⟩ ⟨b.toArray⟩ m W.w (by omega) hc) fun e w' ⟨he, hw⟩ => ⟨_, he, W, hw.symm, Le.refl _ _, rfl⟩
theorem prefix_call (hs : ∀ (s p : ByteArray) (w : World), Calls P f #[.string s, .string p] w fun e w' => e = .returned (.bool (Lib.hasPrefix s.data.toList p.data.toList)) ∧ w' = w)
    {a b : Str} {r : Bool} (hm : some (Go.Lib.hasPrefix a b) = some r) : CallR P f [vS a, vS b].toArray W.w (Res W [] fun W' u => u = vB r) := by
  cases hm
  exact Calls.mono (hs ⟨a.toArray⟩ ⟨b.toArray⟩ W.w) fun e w' ⟨he, hw⟩ => ⟨_, he, W, hw.symm, Le.refl _ _, rfl⟩
end
end Go.Sx
