/- Rows that a call owns while what their elements lead to is shared; and values that bear a colour that is given away. Conditions: none; each rule's own premises. -/
import Derived.Test.YtmjjhnahdmlmaaaDoorXSm
import Derived.Test.YtmjjhnahdmlmaaaDoorXSl
namespace Go.Sx
open Go Go.RowKit Rp
set_option linter.unusedSimpArgs false
set_option linter.unusedVariables false

/-- The same type; what its values lead to is shared. -/
def Sh (α : Type) : Type := α
@[reducible] instance Rp.sh {α : Type} [Rp α] : Rp (Sh α) where
  sz := sz α
  ty := ty α
  lty := Rp.lty α
  rd w A cs x := rd (α := α) w A cs x
  own w A S cs x := S = [] ∧ rd (α := α) w A cs x
  rd_len := rd_len (α := α)
  rd_one := rd_one (α := α)
  rd_keep := rd_keep (α := α)
  rd_mono := rd_mono (α := α)
  own_len := fun h => rd_len (α := α) h.2
  own_rd := fun h _ hA => rd_mono (α := α) hA h.2
  own_keep := fun hA _ h => ⟨h.1, rd_keep (α := α) hA h.2⟩
  own_mono := fun hA h => ⟨h.1, rd_mono (α := α) hA h.2⟩
instance {α : Type} [Rp α] : Atm (Sh α) := ⟨fun h => ⟨rfl, h⟩⟩
instance {α : Type} [Rp α] [Zr α] : Zr (Sh α) where
  z := (Zr.z : α)
  cs := Zr.cs α
  own := ⟨rfl, own_rd (α := α) Zr.own (fun b hb => by cases hb) (fun b hb => hb)⟩

section
variable {α : Type} [Rp α] {W W' : CW} {k c : Nat} {K L : List Nat} {v : Value} {xs : List α} {cs : List Value} {x : α}
/-- A row of owned elements: from now on what its elements lead to is shared. -/
theorem Ow.toSh (h : Ow (α := List α) W c [] [v] xs) : ∃ W', W'.w = W.w ∧ Le [c] W W' ∧ Ow (α := List (Sh α)) W' c [0] [v] xs := by
  obtain ⟨S, ⟨v', ecs, Ss, e, h⟩, hn, hb⟩ := h
  simp only [List.cons.injEq, and_true] at e
  subst e
  have hmem : ∀ b ∈ Ss.flatten, b ∈ S := fun b hb => by rw [h.S]; exact List.mem_append_right _ hb
  let W' : CW := ⟨W.w, fun b => if b ∈ Ss.flatten then 0 else W.c b⟩
  refine ⟨W', rfl, ⟨rfl, rfl, rfl, Nat.le_refl _, fun b _ hc => ⟨rfl, if_neg (fun hm => hc (by rw [(hb b (hmem b hm)).2]; simp))⟩⟩, v.ownBlock.toList ++ (List.replicate xs.length ([] : List Nat)).flatten, ⟨v, ecs, List.replicate xs.length [], rfl, h.row, rfl, h.elen, List.length_replicate, fun i cs x T h1 h2 h3 => ?_⟩, ?_, fun b hb' => ?_⟩
  · have hT : T = [] := (List.mem_replicate.1 (List.mem_of_getElem? h3)).2
    refine ⟨hT, ?_⟩
    have hi : i < Ss.length := by rw [h.slen]; exact (List.getElem?_eq_some_iff.1 h2).1
    have ho := h.at_ i cs x Ss[i] h1 h2 (List.getElem?_eq_getElem hi)
    refine own_rd (α := α) ho (fun b hb2 => ?_) (fun b hb2 => ?_)
    · have hm : b ∈ Ss.flatten := List.mem_flatten.2 ⟨Ss[i], List.getElem_mem hi, hb2⟩
      exact ⟨(hb b (hmem b hm)).1, by show (if b ∈ Ss.flatten then 0 else W.c b) ∈ [0]; rw [if_pos hm]; simp⟩
    · have := hb2.2
      simp at this
  · have hf : (List.replicate xs.length ([] : List Nat)).flatten = [] := by simp
    rw [hf, List.append_nil]
    cases v.ownBlock <;> simp
  · have hf : (List.replicate xs.length ([] : List Nat)).flatten = [] := by simp
    rw [hf, List.append_nil] at hb'
    have hS : b ∈ S := by rw [h.S]; exact List.mem_append_left _ hb'
    have hnm : b ∉ Ss.flatten := by
      rw [h.S, List.nodup_append] at hn
      intro hm
      exact hn.2.2 b hb' b hm rfl
    exact ⟨(hb b hS).1, by show (if b ∈ Ss.flatten then 0 else W.c b) = c; rw [if_neg hnm]; exact (hb b hS).2⟩
theorem owNSh (k : Nat) (K : List Nat) : Ow (α := List (Sh α)) W k K [.slice none 0 0] ([] : List α) := Ow.zr (α := List (Sh α)) k K
theorem owsNSh (K : List Nat) : OwS (α := List (Sh α)) W [] K [.slice none 0 0] ([] : List α) := OwS.zr (α := List (Sh α)) K
/-- Reading it asks nothing of who owns. -/
theorem Ow.rdSh (h : Ow (α := List (Sh α)) W k K [v] xs) : Rd (α := List α) W (k :: K) [v] xs := h.rd

/-! ### A colour is given away: what bears it is shared from now on -/
def dyeK (c : Nat) (K : List Nat) : List Nat := K.map fun a => bif Nat.beq a c then 0 else a
theorem dyeK_mem {c a : Nat} {K : List Nat} (h : a ∈ K) : (bif Nat.beq a c then 0 else a) ∈ dyeK c K := List.mem_map.2 ⟨a, h, rfl⟩
theorem AK.dye {c b : Nat} (h : AK W K b) : AK (W.dye c 0) (dyeK c K) b := ⟨h.1, by
  have := dyeK_mem (c := c) h.2
  exact this⟩
theorem Rd.dye (h : Rd W K cs x) (c : Nat) : Rd (W.dye c 0) (dyeK c K) cs x := rd_mono (α := α) (fun b hb => AK.dye hb) h
theorem Ow.dyeA (h : Ow W k K cs x) (c : Nat) (hne : Nat.beq k c = false) : Ow (W.dye c 0) k (dyeK c K) cs x := by
  obtain ⟨S, ho, hn, hb⟩ := h
  refine ⟨S, own_mono (α := α) (fun b hb => AK.dye hb) ho, hn, fun b hb' => ⟨(hb b hb').1, ?_⟩⟩
  show (bif Nat.beq (W.c b) c then 0 else W.c b) = k
  rw [(hb b hb').2, hne]; rfl
theorem Bx.dyeA {g : Nat} (h : Bx W k g cs) (c : Nat) (hne : Nat.beq k c = false) : Bx (W.dye c 0) k g cs := ⟨by
  show (bif Nat.beq (W.c g) c then 0 else W.c g) = k
  rw [h.1, hne]; rfl, h.2⟩
theorem At.dye {p : Addr} (h : At W K p x) (c : Nat) : At (W.dye c 0) (dyeK c K) p x := ⟨AK.dye h.1, let ⟨cs, h1, h2⟩ := h.2; ⟨cs, h1, Rd.dye h2 c⟩⟩
end
end Go.Sx
