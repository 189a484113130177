/- strings.Split, Contains, HasPrefix, as the shelf tells them. Conditions: none; each rule's own premises. -/
import Derived.Test.YtmjjhnahdmlmaaaDoorXSs
import Derived.Lib.SplitLaws
import Derived.Lib.IndexMore
import Derived.Lib.Join
import Derived.Lib.ItoaNum
import Derived.Below
namespace Go.Sx
open Go Go.RowKit Go.Proofs Go.Shelf Rp
set_option linter.unusedSimpArgs false
set_option linter.unusedVariables false
set_option linter.unusedSectionVars false

/-- A number takes one cell. -/
class Ia [Rp Int] : Prop where
  one : ∀ {W : CW} {K : List Nat} {cs : List Value} {m : Int}, Rd W K cs m → cs = [vI m]
section
variable [Rp Str] [hS : Sa] [Rp Int] [hI : Ia] {W : CW} {K : List Nat} {g k : Nat} {P : Program} {f : FuncId}
theorem Gl.cell (h : Gl g W K) : ∃ m : Int, W.w.cell? ⟨g, 0, none⟩ = some (.int .i64 m) := by
  obtain ⟨m, _, cs, hc, hr⟩ := h
  have e := hI.one hr
  subst e
  have := hc 0 (vI m) rfl
  rw [show (⟨g, 0, none⟩ : Addr).add 0 = ⟨g, 0, none⟩ by simp [Addr.add]] at this
  exact ⟨m, this⟩
theorem str_back (x : ByteArray) : vS x.data.toList = .string x := rfl
theorem split_pieces (s sep : ByteArray) (n : Nat) : (Lib.splitB sep 0 n s).map Value.string = (Lib.splitK sep.data.toList 0 n s.data.toList).map vS := by
  rw [← Lib.splitB_data, List.map_map]
  rfl
theorem split_call (hs : ∀ (s sep : ByteArray) (m : Int) (w : World), s.size < 4294967281 → w.cell? ⟨g, 0, none⟩ = some (.int .i64 m) → 1 ≤ sep.size →
      Calls P f #[.string s, .string sep] w fun e w' => e = .returned (.slice (some ⟨w.heap.size, 0, none⟩) (Lib.countB s sep + 1) (Lib.countB s sep + 1)) ∧ w' = w.alloc (.cells ((Lib.splitB sep 0 (Lib.countB s sep) s).map Value.string).toArray (Rp.ty Str)))
    (hG : Gl g W K) {a b : Str} {r : List Str} (hm : (if a.length ≤ 4294967000 ∧ 1 ≤ b.length then some (Go.Lib.split a b) else none) = some r) :
    CallR P f [vS a, vS b].toArray W.w (Res W [] fun W' u => ∃ u0 : Value, u = u0 ∧ Ow (α := List Str) W' k [] [u0] r) := by
  split at hm
  case isFalse => cases hm
  rename_i hl
  cases hm
  obtain ⟨m, hc⟩ := hG.cell
  have ha : (⟨a.toArray⟩ : ByteArray).size = a.length := by simp [ByteArray.size]
  have hb : (⟨b.toArray⟩ : ByteArray).size = b.length := by simp [ByteArray.size]
  refine Calls.mono (hs ⟨a.toArray⟩ ⟨b.toArray⟩ m W.w (by omega) hc (by omega)) fun e w' ⟨he, hw⟩ => ?_
  have hlen := Lib.splitB_all ⟨b.toArray⟩ (by omega) 0 _ ⟨a.toArray⟩ rfl
  have hle := Lib.countB_le ⟨b.toArray⟩ (by omega) _ ⟨a.toArray⟩ (Nat.le_refl _)
  have hp := split_pieces ⟨a.toArray⟩ ⟨b.toArray⟩ (Lib.countB ⟨a.toArray⟩ ⟨b.toArray⟩)
  have hsp : Lib.splitK (⟨b.toArray⟩ : ByteArray).data.toList 0 (Lib.countB ⟨a.toArray⟩ ⟨b.toArray⟩) (⟨a.toArray⟩ : ByteArray).data.toList = Lib.split a b := by
    simp [Lib.split, Lib.countB]
  rw [hsp] at hp
  have hn : (Lib.split a b).length = Lib.countB ⟨a.toArray⟩ ⟨b.toArray⟩ + 1 := by
    have := congrArg List.length hp
    simp only [List.length_map] at this
    omega
  refine ⟨_, he, W.new k (.cells ((Lib.splitB ⟨b.toArray⟩ 0 (Lib.countB ⟨a.toArray⟩ ⟨b.toArray⟩) ⟨a.toArray⟩).map Value.string).toArray (Rp.ty Str)), hw.symm, Le.new _ _, _, rfl, ?_⟩
  rw [← hn, hp]
  refine strs_own (g := W.w.heap.size) (cap := (Lib.split a b).length) (cur := ((Lib.split a b).map vS).toArray) (heap_alloc_new W.w _) (by simp [CW.new, Nat.beq_refl]) (Nat.le_refl _) (by unfold maxLen; omega) (by simp) ?_
  rw [List.take_of_length_le (by simp)]
theorem contains_call (hs : ∀ (s sub : ByteArray) (m : Int) (w : World), s.size < 4294967281 → w.cell? ⟨g, 0, none⟩ = some (.int .i64 m) →
      Calls P f #[.string s, .string sub] w fun e w' => e = .returned (.bool (Lib.contains s.data.toList sub.data.toList)) ∧ w' = w)
    (hG : Gl g W K) {a b : Str} {r : Bool} (hm : (if a.length ≤ 4294967000 then some (Go.Lib.contains a b) else none) = some r) :
    CallR P f [vS a, vS b].toArray W.w (Res W [] fun W' u => u = vB r) := by
  split at hm
  case isFalse => cases hm
  rename_i hl
  cases hm
  obtain ⟨m, hc⟩ := hG.cell
  have ha : (⟨a.toArray⟩ : ByteArray).size = a.length := by simp [ByteArray.size]
  refine Calls.mono (hs ⟨a.toArray⟩ ⟨b.toArray⟩ m W.w (by omega) hc) fun e w' ⟨he, hw⟩ => ⟨_, he, W, hw.symm, Le.refl _ _, rfl⟩
theorem prefix_call (hs : ∀ (s p : ByteArray) (w : World), Calls P f #[.string s, .string p] w fun e w' => e = .returned (.bool (Lib.hasPrefix s.data.toList p.data.toList)) ∧ w' = w)
    {a b : Str} {r : Bool} (hm : some (Go.Lib.hasPrefix a b) = some r) : CallR P f [vS a, vS b].toArray W.w (Res W [] fun W' u => u = vB r) := by
  cases hm
  exact Calls.mono (hs ⟨a.toArray⟩ ⟨b.toArray⟩ W.w) fun e w' ⟨he, hw⟩ => ⟨_, he, W, hw.symm, Le.refl _ _, rfl⟩
theorem join_call (hs : ∀ (bk o c : Nat) (xs : List ByteArray) (sep : ByteArray) (w : World), (∀ (j : Nat) x, xs[j]? = some x → w.cell? ⟨bk, o + j, none⟩ = some (.string x)) → bk < w.heap.size → xs.length ≤ 140737488355328 → xs.length ≤ c → (Lib.join (xs.map (·.data.toList)) sep.data.toList).length ≤ 140737488355328 →
      Calls P f #[.slice (some ⟨bk, o, none⟩) xs.length c, .string sep] w fun e w' => e = .returned (.string ⟨(Lib.join (xs.map (·.data.toList)) sep.data.toList).toArray⟩) ∧ Below w.heap.size w w')
    (hn : ∀ (a : Option Addr) (c : Nat) (sep : ByteArray) (w : World), Calls P f #[.slice a 0 c, .string sep] w fun e w' => e = .returned (.string ⟨#[]⟩) ∧ w' = w)
    {v : Value} {xs : List Str} {b r : Str} (h : Rd W K [v] xs) (hm : (if xs.length ≤ 4294967000 ∧ (Go.Lib.join xs b).length ≤ 4294967000 then some (Go.Lib.join xs b) else none) = some r) :
    CallR P f [v, vS b].toArray W.w (Res W [] fun W' u => u = vS r) := by
  split at hm
  case isFalse => cases hm
  rename_i hl
  cases hm
  obtain ⟨ad, cap, e, hc, hcm, ha, hx⟩ := h
  simp only [List.cons.injEq, and_true] at e
  subst e
  cases xs with
  | nil => exact Calls.mono (hn ad cap ⟨b.toArray⟩ W.w) fun e w' ⟨he, hw⟩ => ⟨_, he, W, hw.symm, Le.refl _ _, rfl⟩
  | cons x t =>
    obtain ⟨a, rfl, hb⟩ := ha (by simp)
    have hcell : ∀ (j : Nat) y, (x :: t)[j]? = some y → W.w.cell? (a.add j) = some (vS y) := fun j y hy => by
      obtain ⟨ecs, h1, h2⟩ := hx j y hy
      have e := hS.rd h2
      subst e
      have := h1 0 (vS y) rfl
      rw [hS.sz, Nat.mul_one] at this
      rw [show ((slA (.slice (some a) (x :: t).length cap)).add j).add 0 = a.add j by simp [Addr.add, slA]] at this
      exact this
    have hspot : a.spot = none := by
      have h0 := hcell 0 x rfl
      rw [show a.add 0 = a by simp [Addr.add]] at h0
      unfold World.cell? at h0
      cases hsp : a.spot with
      | none => rfl
      | some k =>
        rw [hsp] at h0
        split at h0
        · simp at h0
        · cases h0
    obtain ⟨blk, off, spot⟩ := a
    simp only at hspot
    subst hspot
    have hadd : ∀ j, (⟨blk, off, none⟩ : Addr).add j = ⟨blk, off + j, none⟩ := fun j => by
      unfold Addr.add
      split
      · rename_i h; rw [h]; rfl
      · rfl
    have hback : ((x :: t).map fun s : Str => (⟨s.toArray⟩ : ByteArray)).map (·.data.toList) = x :: t := by
      rw [List.map_map]
      exact List.map_id _
    have hlen : ((x :: t).map fun s : Str => (⟨s.toArray⟩ : ByteArray)).length = (x :: t).length := List.length_map ..
    have key := hs blk off cap ((x :: t).map fun s : Str => (⟨s.toArray⟩ : ByteArray)) ⟨b.toArray⟩ W.w (fun j y hy => by
      rw [List.getElem?_map] at hy
      cases hj : (x :: t)[j]? with
      | none => rw [hj] at hy; cases hy
      | some z =>
        rw [hj] at hy
        cases hy
        rw [← hadd]
        exact hcell j z hj) hb.1 (by rw [hlen]; omega) (by rw [hlen]; exact hc) (by rw [hback]; show (Lib.join (x :: t) b).length ≤ _; omega)
    rw [hlen, hback] at key
    refine Calls.mono key fun e w' ⟨he, bel⟩ => ?_
    refine ⟨_, he, ⟨w', fun i => if i < W.w.heap.size then W.c i else 1⟩, rfl, ⟨bel.os, bel.tape, bel.output, bel.size, fun i hi _ => ⟨bel.block i hi, if_pos hi⟩⟩, rfl⟩
theorem itoa_call (hs : ∀ (i : Nat), i < 100 → ∀ (w : World), Calls P f #[.int .i64 i] w fun e w' => e = .returned (.string ⟨(Lib.decDigits i).toArray⟩) ∧ w' = w)
    {a : Int} {r : Str} (hm : (if 0 ≤ a ∧ a < 100 then some (Go.Lib.decDigits a.toNat) else none) = some r) : CallR P f [vI a].toArray W.w (Res W [] fun W' u => u = vS r) := by
  split at hm
  case isFalse => cases hm
  rename_i hl
  cases hm
  have key := hs a.toNat (by omega) W.w
  rw [Int.toNat_of_nonneg hl.1] at key
  exact Calls.mono key fun e w' ⟨he, hw⟩ => ⟨_, he, W, hw.symm, Le.refl _ _, rfl⟩
end
end Go.Sx
