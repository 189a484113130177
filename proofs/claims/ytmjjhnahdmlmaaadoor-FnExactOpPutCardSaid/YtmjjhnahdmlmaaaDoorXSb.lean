/- What a value reads as: shared reading (rd) and owned reading (own), and worlds whose blocks bear colours. Conditions: none; each rule's own premises. -/
import Derived.Test.YtmjjhnahdmlmaaaDoorXSa
import Derived.Test.YtmjjhnahdmlmaaaDoorXSp
import Derived.Maps.AppendAt
import Derived.Deep.AppendLies
namespace Go.Sx
open Go Go.RowKit
set_option linter.unusedSimpArgs false
set_option linter.unusedVariables false

abbrev vI (n : Int) : Value := .int .i64 n
abbrev vB (b : Bool) : Value := .bool b
abbrev vS (s : Str) : Value := .string ⟨s.toArray⟩

theorem add_block (a : Addr) (n : Nat) : (a.add n).block = a.block := by unfold Addr.add; split <;> rfl
theorem add_add (a : Addr) (i j : Nat) : (a.add i).add j = a.add (i + j) := by
  unfold Addr.add
  by_cases hi : i = 0 <;> by_cases hj : j = 0 <;> simp [hi, hj, Nat.add_assoc]

def CellsAt (w : World) (p : Addr) (cs : List Value) : Prop := ∀ j u, cs[j]? = some u → w.cell? (p.add j) = some u
theorem CellsAt.keep {w w' : World} {p : Addr} {cs : List Value} (h : CellsAt w p cs) (hb : w'.heap[p.block]? = w.heap[p.block]?) : CellsAt w' p cs := fun j u hu => by
  rw [World.cell?_of_block (w := w) (by rw [add_block]; exact hb)]
  exact h j u hu
theorem CellsAt.left {w : World} {p : Addr} {c d : List Value} (h : CellsAt w p (c ++ d)) : CellsAt w p c := fun j u hu =>
  h j u (by rw [List.getElem?_append_left (List.getElem?_eq_some_iff.1 hu).1]; exact hu)
theorem CellsAt.right {w : World} {p : Addr} {c d : List Value} (h : CellsAt w p (c ++ d)) : CellsAt w (p.add c.length) d := fun j u hu => by
  rw [add_add]
  exact h _ u (by rw [List.getElem?_append_right (Nat.le_add_right _ _), Nat.add_sub_cancel_left]; exact hu)

class Rp (α : Type) where
  sz : Nat
  ty : TypeId
  lty : TypeId
  rd : World → (Nat → Prop) → List Value → α → Prop
  own : World → (Nat → Prop) → List Nat → List Value → α → Prop
  rd_len : ∀ {w A cs x}, rd w A cs x → cs.length = sz
  rd_one : ∀ {w A cs x}, rd w A cs x → ∀ u ∈ cs, u.oneCell' = true
  rd_keep : ∀ {w w' A cs x}, (∀ b, A b → w'.heap[b]? = w.heap[b]?) → rd w A cs x → rd w' A cs x
  rd_mono : ∀ {w A A' cs x}, (∀ b, A b → A' b) → rd w A cs x → rd w A' cs x
  own_len : ∀ {w A S cs x}, own w A S cs x → cs.length = sz
  own_rd : ∀ {w A A' S cs x}, own w A S cs x → (∀ b, b ∈ S → A' b) → (∀ b, A b → A' b) → rd w A' cs x
  own_keep : ∀ {w w' A S cs x}, (∀ b, A b → w'.heap[b]? = w.heap[b]?) → (∀ b, b ∈ S → w'.heap[b]? = w.heap[b]?) → own w A S cs x → own w' A S cs x
  own_mono : ∀ {w A A' S cs x}, (∀ b, A b → A' b) → own w A S cs x → own w A' S cs x
open Rp

/-- A type whose values take one cell and lead nowhere. -/
@[reducible] def Rp.atom {α : Type} (ty : TypeId) (enc : α → Value) (ok : α → Prop) (h : ∀ x, (enc x).oneCell' = true) (lty : TypeId := 0) : Rp α where
  sz := 1
  ty := ty
  lty := lty
  rd _ _ cs x := cs = [enc x] ∧ ok x
  own _ _ S cs x := S = [] ∧ cs = [enc x] ∧ ok x
  rd_len := fun ⟨e, _⟩ => by rw [e]; rfl
  rd_one := fun ⟨e, _⟩ u hu => by rw [e, List.mem_singleton] at hu; rw [hu]; exact h _
  rd_keep := fun _ h => h
  rd_mono := fun _ h => h
  own_len := fun ⟨_, e, _⟩ => by rw [e]; rfl
  own_rd := fun ⟨_, e, o⟩ _ _ => ⟨e, o⟩
  own_keep := fun _ _ h => h
  own_mono := fun _ h => h

section pair
variable {α β : Type} [Rp α] [Rp β]
@[reducible] instance Rp.pair : Rp (α × β) where
  sz := sz α + sz β
  ty := 0
  lty := 0
  rd w A cs x := ∃ c d, cs = c ++ d ∧ rd w A c x.1 ∧ rd w A d x.2
  own w A S cs x := ∃ c d T U, cs = c ++ d ∧ S = T ++ U ∧ own w A T c x.1 ∧ own w A U d x.2
  rd_len := fun ⟨c, d, e, h, k⟩ => by rw [e, List.length_append, rd_len h, rd_len k]
  rd_one := fun ⟨c, d, e, h, k⟩ u hu => by
    rw [e, List.mem_append] at hu
    exact hu.elim (rd_one h u) (rd_one k u)
  rd_keep := fun hw ⟨c, d, e, h, k⟩ => ⟨c, d, e, rd_keep hw h, rd_keep hw k⟩
  rd_mono := fun hw ⟨c, d, e, h, k⟩ => ⟨c, d, e, rd_mono hw h, rd_mono hw k⟩
  own_len := fun ⟨c, d, T, U, e, _, h, k⟩ => by rw [e, List.length_append, own_len h, own_len k]
  own_rd := fun ⟨c, d, T, U, e, f, h, k⟩ hS hA => ⟨c, d, e, own_rd h (fun b hb => hS b (by rw [f]; exact List.mem_append_left _ hb)) hA, own_rd k (fun b hb => hS b (by rw [f]; exact List.mem_append_right _ hb)) hA⟩
  own_keep := fun hA hS ⟨c, d, T, U, e, f, h, k⟩ => ⟨c, d, T, U, e, f, own_keep hA (fun b hb => hS b (by rw [f]; exact List.mem_append_left _ hb)) h, own_keep hA (fun b hb => hS b (by rw [f]; exact List.mem_append_right _ hb)) k⟩
  own_mono := fun hA ⟨c, d, T, U, e, f, h, k⟩ => ⟨c, d, T, U, e, f, own_mono hA h, own_mono hA k⟩
end pair

@[reducible] def Rp.iso {α β : Type} [Rp β] (ty : TypeId) (to : α → β) (lty : TypeId := 0) : Rp α where
  sz := sz β
  ty := ty
  lty := lty
  rd w A cs x := rd w A cs (to x)
  own w A S cs x := own w A S cs (to x)
  rd_len := rd_len
  rd_one := rd_one
  rd_keep := rd_keep
  rd_mono := rd_mono
  own_len := own_len
  own_rd := own_rd
  own_keep := own_keep
  own_mono := own_mono

/-- The same type, but what its values lead to is shared: nothing is owned. -/
structure Shd (α : Type) where
  v : α
@[reducible] instance Rp.shd {α : Type} [Rp α] : Rp (Shd α) where
  sz := sz α
  ty := ty α
  lty := Rp.lty α
  rd w A cs x := rd w A cs x.v
  own w A S cs x := S = [] ∧ rd w A cs x.v
  rd_len := rd_len
  rd_one := rd_one
  rd_keep := rd_keep
  rd_mono := rd_mono
  own_len := fun h => rd_len h.2
  own_rd := fun h _ hA => rd_mono hA h.2
  own_keep := fun hA _ h => ⟨h.1, rd_keep hA h.2⟩
  own_mono := fun hA h => ⟨h.1, rd_mono hA h.2⟩

/-! ### Slices -/
def slA : Value → Addr
  | .slice (some a) _ _ => a
  | _ => ⟨0, 0, none⟩
theorem flatten_at {β : Type} (s : Nat) : ∀ (ecs : List (List β)) (i : Nat) (cs : List β), (∀ c ∈ ecs, c.length = s) → ecs[i]? = some cs → ∀ j u, cs[j]? = some u → ecs.flatten[i * s + j]? = some u
  | [], i, cs, _, h, _, _, _ => by simp at h
  | e :: ecs, 0, cs, hl, h, j, u, hu => by
    simp at h
    subst h
    simp only [Nat.zero_mul, Nat.zero_add, List.flatten_cons]
    rw [List.getElem?_append_left (List.getElem?_eq_some_iff.1 hu).1]
    exact hu
  | e :: ecs, i + 1, cs, hl, h, j, u, hu => by
    simp at h
    have he : e.length = s := hl e (by simp)
    rw [List.flatten_cons, List.getElem?_append_right (by rw [he, Nat.add_mul, Nat.one_mul]; omega)]
    rw [show (i + 1) * s + j - e.length = i * s + j by rw [he, Nat.add_mul, Nat.one_mul]; omega]
    exact flatten_at s ecs i cs (fun c hc => hl c (by simp [hc])) h j u hu

/-- The elements of a row, one by one. -/
structure Each {α : Type} (R : List Value → α → Prop) (ecs : List (List Value)) (xs : List α) : Prop where
  len : ecs.length = xs.length
  at_ : ∀ (i : Nat) cs x, ecs[i]? = some cs → xs[i]? = some x → R cs x
theorem Each.nil {α : Type} {R : List Value → α → Prop} : Each R [] [] := ⟨rfl, fun i cs x h => by simp at h⟩
theorem Each.append {α : Type} {R : List Value → α → Prop} {es fs : List (List Value)} {xs ys : List α} (h : Each R es xs) (k : Each R fs ys) : Each R (es ++ fs) (xs ++ ys) := by
  refine ⟨by simp [h.len, k.len], fun i cs x hc hx => ?_⟩
  by_cases hi : i < es.length
  · rw [List.getElem?_append_left hi] at hc
    rw [List.getElem?_append_left (by rw [← h.len]; exact hi)] at hx
    exact h.at_ i cs x hc hx
  · rw [List.getElem?_append_right (by omega)] at hc
    rw [List.getElem?_append_right (by rw [← h.len]; omega), ← h.len] at hx
    exact k.at_ _ cs x hc hx
theorem Each.one {α : Type} {R : List Value → α → Prop} {cs : List Value} {x : α} (h : R cs x) : Each R [cs] [x] := by
  refine ⟨rfl, fun i c y hc hy => ?_⟩
  cases i with
  | zero => simp at hc hy; subst hc; subst hy; exact h
  | succ i => simp at hc
theorem Each.imp {α : Type} {R R' : List Value → α → Prop} {es : List (List Value)} {xs : List α} (h : Each R es xs) (hr : ∀ cs x, R cs x → R' cs x) : Each R' es xs :=
  ⟨h.len, fun i cs x a b => hr _ _ (h.at_ i cs x a b)⟩
theorem Each.get {α : Type} {R : List Value → α → Prop} {es : List (List Value)} {xs : List α} (h : Each R es xs) {i : Nat} {x : α} (hx : xs[i]? = some x) : ∃ cs, es[i]? = some cs ∧ R cs x := by
  have hi : i < es.length := by rw [h.len]; exact (List.getElem?_eq_some_iff.1 hx).1
  exact ⟨es[i], List.getElem?_eq_getElem hi, h.at_ i _ x (List.getElem?_eq_getElem hi) hx⟩
theorem Each.mem {α : Type} {R : List Value → α → Prop} {es : List (List Value)} {xs : List α} (h : Each R es xs) {cs : List Value} (hc : cs ∈ es) : ∃ x, R cs x := by
  obtain ⟨i, hi⟩ := List.getElem?_of_mem hc
  have hl : i < xs.length := by rw [← h.len]; exact (List.getElem?_eq_some_iff.1 hi).1
  exact ⟨xs[i], h.at_ i cs _ hi (List.getElem?_eq_getElem hl)⟩
theorem Each.set {α : Type} {R : List Value → α → Prop} {es : List (List Value)} {xs : List α} (h : Each R es xs) {i : Nat} {cs : List Value} {x : α} (hr : R cs x) : Each R (es.set i cs) (xs.set i x) := by
  refine ⟨by simp [h.len], fun j c y hc hy => ?_⟩
  by_cases e : i = j
  · subst e
    by_cases hl : i < es.length
    · have hl' : i < xs.length := by rw [← h.len]; exact hl
      simp [hl] at hc
      simp [hl'] at hy
      subst hc; subst hy; exact hr
    · simp [List.getElem?_eq_none (show (es.set i cs).length ≤ i by simpa using hl)] at hc
  · rw [List.getElem?_set_ne e] at hc hy
    exact h.at_ j c y hc hy

section list
variable {α : Type} [Rp α]
/-- The slice's row as the call's own: its cells, element by element, and the blocks that each element owns. -/
structure OwnRow (w : World) (A : Nat → Prop) (S : List Nat) (v : Value) (xs : List α) (ecs : List (List Value)) (Ss : List (List Nat)) : Prop where
  row : w.ownsRow 0 (ty α) (sz α) v xs.length ecs.flatten
  S : S = v.ownBlock.toList ++ Ss.flatten
  elen : ecs.length = xs.length
  slen : Ss.length = xs.length
  at_ : ∀ (i : Nat) cs x T, ecs[i]? = some cs → xs[i]? = some x → Ss[i]? = some T → own w A T cs x
theorem OwnRow.len {w : World} {A : Nat → Prop} {S : List Nat} {v : Value} {xs : List α} {ecs : List (List Value)} {Ss : List (List Nat)} (h : OwnRow w A S v xs ecs Ss) : ∀ c ∈ ecs, c.length = sz α := by
  intro c hc
  obtain ⟨i, hi⟩ := List.getElem?_of_mem hc
  have hl := (List.getElem?_eq_some_iff.1 hi).1
  have h1 : i < xs.length := by rw [← h.elen]; exact hl
  have h2 : i < Ss.length := by rw [h.slen]; exact h1
  exact own_len (h.at_ i c _ _ hi (List.getElem?_eq_getElem h1) (List.getElem?_eq_getElem h2))

@[reducible] instance Rp.list : Rp (List α) where
  sz := 1
  ty := Rp.lty α
  lty := 0
  rd w A cs xs := ∃ ad cap, cs = [.slice ad xs.length cap] ∧ xs.length ≤ cap ∧ cap ≤ maxLen ∧ (0 < xs.length → ∃ a, ad = some a ∧ A a.block) ∧
    ∀ (i : Nat) x, xs[i]? = some x → ∃ ecs, CellsAt w ((slA (.slice ad xs.length cap)).add (i * sz α)) ecs ∧ rd w A ecs x
  own w A S cs xs := ∃ v ecs Ss, cs = [v] ∧ OwnRow w A S v xs ecs Ss
  rd_len := fun ⟨_, _, e, _⟩ => by rw [e]; rfl
  rd_one := fun ⟨_, _, e, _⟩ u hu => by rw [e, List.mem_singleton] at hu; rw [hu]; rfl
  rd_keep := fun {w w' A cs xs} hw ⟨ad, cap, e, hc, hm, ha, hx⟩ => ⟨ad, cap, e, hc, hm, ha, fun i x hi => by
    obtain ⟨ecs, h1, h2⟩ := hx i x hi
    refine ⟨ecs, h1.keep ?_, rd_keep hw h2⟩
    obtain ⟨a, rfl, hb⟩ := ha (by have := (List.getElem?_eq_some_iff.1 hi).1; omega)
    rw [add_block]
    exact hw _ hb⟩
  rd_mono := fun hw ⟨ad, cap, e, hc, hm, ha, hx⟩ => ⟨ad, cap, e, hc, hm, fun h => let ⟨a, h1, h2⟩ := ha h; ⟨a, h1, hw _ h2⟩, fun i x hi => let ⟨ecs, h1, h2⟩ := hx i x hi; ⟨ecs, h1, rd_mono hw h2⟩⟩
  own_len := fun ⟨_, _, _, e, _⟩ => by rw [e]; rfl
  own_rd := fun {w A A' S cs xs} ⟨v, ecs, Ss, e, h⟩ hS hA => by
    subst e
    have hmem : ∀ b, v.ownBlock = some b → A' b := fun b hb => hS b (by rw [h.S, hb]; simp)
    have helt : ∀ (i : Nat) x, xs[i]? = some x → ∃ cs, ecs[i]? = some cs ∧ rd w A' cs x := by
      intro i x hi
      have hl := (List.getElem?_eq_some_iff.1 hi).1
      have h1 : i < ecs.length := by rw [h.elen]; exact hl
      have h2 : i < Ss.length := by rw [h.slen]; exact hl
      refine ⟨ecs[i], List.getElem?_eq_getElem h1, own_rd (h.at_ i _ x Ss[i] (List.getElem?_eq_getElem h1) hi (List.getElem?_eq_getElem h2)) (fun b hb => hS b ?_) hA⟩
      rw [h.S]
      exact List.mem_append_right _ (List.mem_flatten.2 ⟨Ss[i], List.getElem_mem h2, hb⟩)
    rcases h.row.2 with ⟨rfl, hn⟩ | ⟨g, cap, cur, rfl, _, _, hc, hm, _⟩
    · exact ⟨none, 0, by rw [hn], by omega, Nat.zero_le _, fun hp => by omega, fun i x hi => by have := (List.getElem?_eq_some_iff.1 hi).1; omega⟩
    · refine ⟨some ⟨g, 0, none⟩, cap, rfl, hc, hm, fun _ => ⟨_, rfl, hmem g rfl⟩, fun i x hi => ?_⟩
      obtain ⟨cs, hcs, hr⟩ := helt i x hi
      refine ⟨cs, fun j u hu => ?_, hr⟩
      rw [add_add]
      exact h.row.cells (g := g) rfl _ u (flatten_at (sz α) ecs i cs h.len hcs j u hu)
  own_keep := fun {w w' A S cs xs} hA hS ⟨v, ecs, Ss, e, h⟩ => by
    refine ⟨v, ecs, Ss, e, ?_, h.S, h.elen, h.slen, fun i cs x T h1 h2 h3 => own_keep hA (fun b hb => hS b ?_) (h.at_ i cs x T h1 h2 h3)⟩
    · refine ⟨h.row.1, ?_⟩
      rcases h.row.2 with hn | ⟨g, cap, cur, rfl, hb, hg, rest⟩
      · exact .inl hn
      · exact .inr ⟨g, cap, cur, rfl, hb, by rw [hS g (by rw [h.S]; simp [Value.ownBlock])]; exact hg, rest⟩
    · rw [h.S]
      exact List.mem_append_right _ (List.mem_flatten.2 ⟨T, List.mem_of_getElem? h3, hb⟩)
  own_mono := fun hA ⟨v, ecs, Ss, e, h⟩ => ⟨v, ecs, Ss, e, h.row, h.S, h.elen, h.slen, fun i cs x T h1 h2 h3 => own_mono hA (h.at_ i cs x T h1 h2 h3)⟩
end list

/-! ### Worlds whose blocks bear colours -/
structure CW where
  w : World
  c : Nat → Nat
/-- From W to W' only blocks of the colours L may have turned. -/
structure Le (L : List Nat) (W W' : CW) : Prop where
  os : W'.w.os = W.w.os
  tape : W'.w.tape = W.w.tape
  output : W'.w.output = W.w.output
  size : W.w.heap.size ≤ W'.w.heap.size
  keep : ∀ b, b < W.w.heap.size → W.c b ∉ L → W'.w.heap[b]? = W.w.heap[b]? ∧ W'.c b = W.c b
theorem Le.refl (L : List Nat) (W : CW) : Le L W W := ⟨rfl, rfl, rfl, Nat.le_refl _, fun _ _ _ => ⟨rfl, rfl⟩⟩
theorem Le.trans {L : List Nat} {A B C : CW} (h : Le L A B) (k : Le L B C) : Le L A C :=
  ⟨k.os.trans h.os, k.tape.trans h.tape, k.output.trans h.output, Nat.le_trans h.size k.size, fun b hb hc => by
    obtain ⟨h1, h2⟩ := h.keep b hb hc
    obtain ⟨k1, k2⟩ := k.keep b (Nat.lt_of_lt_of_le hb h.size) (by rw [h2]; exact hc)
    exact ⟨k1.trans h1, k2.trans h2⟩⟩
def subL (L M : List Nat) : Bool := L.all fun a => M.any (Nat.beq a)
def disj (L M : List Nat) : Bool := L.all fun a => !M.any (Nat.beq a)
theorem subL_mem {L M : List Nat} (h : subL L M = true) {a : Nat} (ha : a ∈ L) : a ∈ M := by
  unfold subL at h
  rw [List.all_eq_true] at h
  have := h a ha
  rw [List.any_eq_true] at this
  obtain ⟨x, hx, hb⟩ := this
  rw [Nat.eq_of_beq_eq_true hb]
  exact hx
theorem disj_not {L M : List Nat} (h : disj L M = true) {a : Nat} (ha : a ∈ L) : a ∉ M := by
  unfold disj at h
  rw [List.all_eq_true] at h
  have := h a ha
  intro hm
  rw [Bool.not_eq_true', List.any_eq_false] at this
  exact this a hm (by simp)
theorem Le.sub {L M : List Nat} {W W' : CW} (h : Le L W W') (hs : subL L M = true) : Le M W W' :=
  ⟨h.os, h.tape, h.output, h.size, fun b hb hc => h.keep b hb (fun hl => hc (subL_mem hs hl))⟩
theorem Le.nil {M : List Nat} {W W' : CW} (h : Le [] W W') : Le M W W' :=
  ⟨h.os, h.tape, h.output, h.size, fun b hb _ => h.keep b hb (by simp)⟩

/-- The blocks of the colours K. -/
def AK (W : CW) (K : List Nat) : Nat → Prop := fun b => b < W.w.heap.size ∧ W.c b ∈ K
section
variable {α : Type} [Rp α] {W W' : CW} {K L : List Nat} {cs : List Value} {x : α} {k : Nat}
def Rd (W : CW) (K : List Nat) (cs : List Value) (x : α) : Prop := rd W.w (AK W K) cs x
/-- At address p lies x. -/
def At (W : CW) (K : List Nat) (p : Addr) (x : α) : Prop := AK W K p.block ∧ ∃ cs, CellsAt W.w p cs ∧ Rd W K cs x
/-- x, owned: its blocks bear the colour k; what it shares bears a colour of K. -/
def Ow (W : CW) (k : Nat) (K : List Nat) (cs : List Value) (x : α) : Prop := ∃ S, own W.w (AK W K) S cs x ∧ S.Nodup ∧ ∀ b ∈ S, b < W.w.heap.size ∧ W.c b = k

theorem AK.up (l : Le L W W') (hd : disj K L = true) {b : Nat} (h : AK W K b) : W'.w.heap[b]? = W.w.heap[b]? ∧ AK W' K b := by
  obtain ⟨h1, h2⟩ := l.keep b h.1 (disj_not hd h.2)
  exact ⟨h1, Nat.lt_of_lt_of_le h.1 l.size, by rw [h2]; exact h.2⟩
theorem Rd.up (h : Rd W K cs x) (l : Le L W W') (hd : disj K L = true) : Rd W' K cs x :=
  rd_mono (fun _ hb => (AK.up l hd hb).2) (rd_keep (fun _ hb => (AK.up l hd hb).1) h)
theorem Rd.sub {M : List Nat} (h : Rd W K cs x) (hs : subL K M = true) : Rd W M cs x := rd_mono (fun _ hb => ⟨hb.1, subL_mem hs hb.2⟩) h
theorem At.up {p : Addr} (h : At W K p x) (l : Le L W W') (hd : disj K L = true) : At W' K p x := by
  obtain ⟨ha, cs, hc, hr⟩ := h
  exact ⟨(AK.up l hd ha).2, cs, hc.keep (AK.up l hd ha).1, hr.up l hd⟩
theorem Ow.up (h : Ow W k K cs x) (l : Le L W W') (hd : disj (k :: K) L = true) : Ow W' k K cs x := by
  obtain ⟨S, ho, hn, hs⟩ := h
  have hk : k ∉ L := disj_not hd (by simp)
  have hK : disj K L = true := by
    unfold disj at hd ⊢
    rw [List.all_cons, Bool.and_eq_true] at hd
    exact hd.2
  refine ⟨S, own_mono (fun _ hb => (AK.up l hK hb).2) (own_keep (fun _ hb => (AK.up l hK hb).1) (fun b hb => (l.keep b (hs b hb).1 (by rw [(hs b hb).2]; exact hk)).1) ho), hn, fun b hb => ?_⟩
  have := l.keep b (hs b hb).1 (by rw [(hs b hb).2]; exact hk)
  exact ⟨Nat.lt_of_lt_of_le (hs b hb).1 l.size, this.2.trans (hs b hb).2⟩
theorem Ow.rd (h : Ow W k K cs x) : Rd W (k :: K) cs x := by
  obtain ⟨S, ho, _, hs⟩ := h
  exact own_rd ho (fun b hb => ⟨(hs b hb).1, by rw [(hs b hb).2]; simp⟩) (fun b hb => ⟨hb.1, List.mem_cons_of_mem _ hb.2⟩)
end
end Go.Sx
