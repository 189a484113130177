/- Slices that a call owns: literals, make, append, stores, cuts; and how a callee's colours become its caller's. Conditions: none; each rule's own premises. -/
import Derived.Test.YtmjjhnahdmlmaaaDoorXSe
namespace Go.Sx
open Go Go.RowKit Rp
set_option linter.unusedSimpArgs false
set_option linter.unusedVariables false

/-- A type whose values own nothing. -/
class Atm (α : Type) [Rp α] : Prop where
  own : ∀ {w A cs} {x : α}, rd w A cs x → Rp.own w A [] cs x
/-- The zero value. -/
class Zr (α : Type) [Rp α] where
  z : α
  cs : List Value
  own : ∀ {w A}, Rp.own w A [] cs z
instance {α : Type} [Rp α] : Atm (Shd α) := ⟨fun h => ⟨rfl, h⟩⟩
instance {α β : Type} [Rp α] [Rp β] [Atm α] [Atm β] : Atm (α × β) := ⟨fun ⟨c, d, e, h, k⟩ => ⟨c, d, [], [], e, rfl, Atm.own h, Atm.own k⟩⟩
instance {α : Type} [Rp α] : Zr (List α) where
  z := []
  cs := [.slice none 0 0]
  own := ⟨_, [], [], rfl, World.ownsRow_nil _ _ _ _, rfl, rfl, rfl, fun i cs x T h => by simp at h⟩
instance {α β : Type} [Rp α] [Rp β] [Zr α] [Zr β] : Zr (α × β) where
  z := (Zr.z, Zr.z)
  cs := Zr.cs α ++ Zr.cs β
  own := ⟨_, _, [], [], rfl, rfl, Zr.own, Zr.own⟩
instance {α : Type} [Rp α] [Zr α] : Zr (Shd α) where
  z := ⟨Zr.z⟩
  cs := Zr.cs α
  own := ⟨rfl, own_rd Zr.own (fun b hb => by cases hb) (fun b hb => hb)⟩

section
variable {α β : Type} [Rp α] [Rp β] {W W' : CW} {k k' : Nat} {K K' L : List Nat} {v u : Value} {xs ys : List α} {cs : List Value} {x : α} {g : Nat}

theorem disj_nil (K : List Nat) : disj K [] = true := by unfold disj; rw [List.all_eq_true]; intro a _; rfl
/-! ### Owned values -/
theorem Ow.atm [Atm α] (h : Rd W K cs x) (k : Nat) : Ow W k K cs x := ⟨[], Atm.own h, List.nodup_nil, fun b hb => by cases hb⟩
theorem Ow.zr [Zr α] (k : Nat) (K : List Nat) : Ow W k K (Zr.cs α) (Zr.z : α) := ⟨[], Zr.own, List.nodup_nil, fun b hb => by cases hb⟩
theorem Ow.sub (h : Ow W k K cs x) (hs : subL K K' = true) : Ow W k K' cs x := by
  obtain ⟨S, ho, hn, hb⟩ := h
  exact ⟨S, own_mono (fun _ hb => ⟨hb.1, subL_mem hs hb.2⟩) ho, hn, hb⟩
theorem Ow.len (h : Ow W k K cs x) : cs.length = sz α := by obtain ⟨S, ho, _⟩ := h; exact own_len ho
theorem Ow.one (h : Ow W k K cs x) : ∀ u ∈ cs, u.oneCell' = true := rd_one h.rd
theorem Ow.slice_form (h : Ow W k K [v] xs) : ∃ ad cap, v = .slice ad xs.length cap ∧ xs.length ≤ cap ∧ cap ≤ maxLen := Rd.slice_form h.rd

/-- Owned, the blocks of whatever colours of J. -/
def OwS (W : CW) (J K : List Nat) (cs : List Value) (x : α) : Prop := ∃ S, own W.w (AK W K) S cs x ∧ S.Nodup ∧ ∀ b ∈ S, b < W.w.heap.size ∧ W.c b ∈ J
theorem Ow.s (h : Ow W k K cs x) : OwS W [k] K cs x := by
  obtain ⟨S, ho, hn, hb⟩ := h
  exact ⟨S, ho, hn, fun b h => ⟨(hb b h).1, by simp [(hb b h).2]⟩⟩
theorem OwS.one1 (h : OwS W [k] K cs x) : Ow W k K cs x := by
  obtain ⟨S, ho, hn, hb⟩ := h
  exact ⟨S, ho, hn, fun b h => ⟨(hb b h).1, by simpa using (hb b h).2⟩⟩
theorem OwS.atm [Atm α] (h : Rd W K cs x) : OwS W [] K cs x := ⟨[], Atm.own h, List.nodup_nil, fun b hb => by cases hb⟩
theorem OwS.zr [Zr α] (K : List Nat) : OwS W [] K (Zr.cs α) (Zr.z : α) := ⟨[], Zr.own, List.nodup_nil, fun b hb => by cases hb⟩
theorem OwS.pair {J J' : List Nat} {c d : List Value} {y : β} (h : OwS W J K c x) (k : OwS W J' K d y) (hd : disj J J' = true) : OwS W (J ++ J') K (c ++ d) (x, y) := by
  obtain ⟨S, ho, hn, hb⟩ := h
  obtain ⟨T, to, tn, tb⟩ := k
  refine ⟨S ++ T, ⟨c, d, S, T, rfl, rfl, ho, to⟩, ?_, fun b hb' => ?_⟩
  · rw [List.nodup_append]
    exact ⟨hn, tn, fun a ha b hb' e => disj_not hd (hb a ha).2 (by rw [e]; exact (tb b hb').2)⟩
  · rcases List.mem_append.1 hb' with h1 | h1
    · exact ⟨(hb b h1).1, List.mem_append_left _ (hb b h1).2⟩
    · exact ⟨(tb b h1).1, List.mem_append_right _ (tb b h1).2⟩
theorem OwS.up {J : List Nat} (h : OwS W J K cs x) (l : Le L W W') (hd : (disj J L && disj K L) = true) : OwS W' J K cs x := by
  simp only [Bool.and_eq_true] at hd
  obtain ⟨S, ho, hn, hs⟩ := h
  have key : ∀ b ∈ S, W'.w.heap[b]? = W.w.heap[b]? ∧ W'.c b = W.c b := fun b hb => l.keep b (hs b hb).1 (disj_not hd.1 (hs b hb).2)
  exact ⟨S, own_mono (fun _ hb => (AK.up l hd.2 hb).2) (own_keep (fun _ hb => (AK.up l hd.2 hb).1) (fun b hb => (key b hb).1) ho), hn, fun b hb => ⟨Nat.lt_of_lt_of_le (hs b hb).1 l.size, by rw [(key b hb).2]; exact (hs b hb).2⟩⟩
theorem OwS.sub {J J' : List Nat} (h : OwS W J K cs x) (hj : subL J J' = true) (hs : subL K K' = true) : OwS W J' K' cs x := by
  obtain ⟨S, ho, hn, hb⟩ := h
  exact ⟨S, own_mono (fun _ hb => ⟨hb.1, subL_mem hs hb.2⟩) ho, hn, fun b h => ⟨(hb b h).1, subL_mem hj (hb b h).2⟩⟩
theorem OwS.rd {J : List Nat} (h : OwS W J K cs x) : Rd W (J ++ K) cs x := by
  obtain ⟨S, ho, _, hs⟩ := h
  exact own_rd ho (fun b hb => ⟨(hs b hb).1, List.mem_append_left _ (hs b hb).2⟩) (fun b hb => ⟨hb.1, List.mem_append_right _ hb.2⟩)
theorem OwS.len {J : List Nat} (h : OwS W J K cs x) : cs.length = sz α := by obtain ⟨S, ho, _⟩ := h; exact own_len ho
theorem OwS.one {J : List Nat} (h : OwS W J K cs x) : ∀ u ∈ cs, u.oneCell' = true := rd_one h.rd

/-- Blocks change their colour: all of j are of k from now on. -/
def CW.dye (W : CW) (j k : Nat) : CW := ⟨W.w, fun b => bif Nat.beq (W.c b) j then k else W.c b⟩
theorem CW.dye_same {j : Nat} {b : Nat} (h : W.c b ≠ j) : (W.dye j k).c b = W.c b := by
  have : Nat.beq (W.c b) j = false := by cases hb : Nat.beq (W.c b) j with
    | false => rfl
    | true => exact absurd (Nat.eq_of_beq_eq_true hb) h
  simp [CW.dye, this]
theorem CW.dye_new {j : Nat} {b : Nat} (h : W.c b = j) : (W.dye j k).c b = k := by simp [CW.dye, h, Nat.beq_refl]
theorem Le.dye (j k : Nat) : Le [j] W (W.dye j k) :=
  ⟨rfl, rfl, rfl, Nat.le_refl _, fun b _ hc => ⟨rfl, CW.dye_same (fun e => hc (by simp [e]))⟩⟩
theorem Ow.dye (h : Ow W k K cs x) (k' : Nat) (hd : disj K [k] = true) : Ow (W.dye k k') k' K cs x := by
  obtain ⟨S, ho, hn, hb⟩ := h
  exact ⟨S, own_mono (fun b hb => ⟨hb.1, by rw [CW.dye_same (fun e => disj_not hd hb.2 (by simp [e]))]; exact hb.2⟩) ho, hn, fun b hb' => ⟨(hb b hb').1, CW.dye_new (hb b hb').2⟩⟩
/-- Given away: from now on shared. -/
theorem Ow.share (h : Ow W k K cs x) (hd : disj K [k] = true) : Rd (W.dye k 0) (0 :: K) cs x := (h.dye 0 hd).rd
theorem Ow.pair {j : Nat} {c d : List Value} {y : β} (h : Ow W k K c x) (hy : Ow W j K d y) (hne : Nat.beq j k = false) (hd : disj K [j] = true) : Ow (W.dye j k) k K (c ++ d) (x, y) := by
  have hne' : j ≠ k := fun e => by rw [e, Nat.beq_refl] at hne; cases hne
  obtain ⟨S, ho, hn, hb⟩ := h
  obtain ⟨T, to, tn, tb⟩ := hy
  have hA : ∀ b, AK W K b → AK (W.dye j k) K b := fun b hb => ⟨hb.1, by rw [CW.dye_same (fun e => disj_not hd hb.2 (by simp [e]))]; exact hb.2⟩
  refine ⟨S ++ T, ⟨c, d, S, T, rfl, rfl, own_mono hA ho, own_mono hA to⟩, ?_, fun b hb' => ?_⟩
  · rw [List.nodup_append]
    exact ⟨hn, tn, fun a ha b hb' e => hne' (by rw [← (tb b hb').2, ← e, (hb a ha).2])⟩
  · rcases List.mem_append.1 hb' with h1 | h1
    · exact ⟨(hb b h1).1, by rw [CW.dye_same (by rw [(hb b h1).2]; exact Ne.symm hne')]; exact (hb b h1).2⟩
    · exact ⟨(tb b h1).1, CW.dye_new (tb b h1).2⟩

/-! ### Cuts -/
theorem Rd.cut {ad : Option Addr} {n c l h : Nat} (hr : Rd W K [.slice ad n c] xs) (hlh : l ≤ h) (hh : h ≤ xs.length) :
    Rd W K [sliced ad l h c (sz α)] ((xs.take h).drop l) := by
  obtain ⟨ad', cap, e, hc, hm, ha, hx⟩ := hr
  simp only [List.cons.injEq, Value.slice.injEq, and_true] at e
  obtain ⟨rfl, rfl, rfl⟩ := e
  have hlen : ((xs.take h).drop l).length = h - l := by simp; omega
  by_cases hcl : c = l
  · have h0 : h - l = 0 := by omega
    have he : (xs.take h).drop l = [] := List.eq_nil_of_length_eq_zero (by omega)
    rw [he]
    refine ⟨if c = l then ad else ad.map (·.add (l * sz α)), c - l, by simp [sliced, h0], by simp, by unfold maxLen at *; omega, fun hp => by simp at hp, fun i x hi => by simp at hi⟩
  · refine ⟨ad.map (·.add (l * sz α)), c - l, by simp [sliced, hcl, hlen], by omega, by unfold maxLen at *; omega, fun hp => ?_, fun i x hi => ?_⟩
    · rw [hlen] at hp
      obtain ⟨a, rfl, hb⟩ := ha (by omega)
      exact ⟨_, rfl, by rw [add_block]; exact hb⟩
    · have hil := (List.getElem?_eq_some_iff.1 hi).1
      rw [hlen] at hil
      obtain ⟨a, rfl, hb⟩ := ha (by omega)
      rw [List.getElem?_drop, List.getElem?_take_of_lt (by omega)] at hi
      obtain ⟨ecs, h1, h2⟩ := hx _ x hi
      refine ⟨ecs, ?_, h2⟩
      simp only [slA, Option.map_some] at h1 ⊢
      rw [add_add, ← Nat.add_mul]
      exact h1

/-! ### Append -/
/-- An owned row, more elements, each with the blocks that it owns (of other colours): the row with them. -/
theorem grow_own {w' : World} {v' : Value} {ecs es : List (List Value)} {Ts Ss : List (List Nat)} {S : List Nat} (J : List Nat) (ho : OwnRow W.w (AK W K) S v xs es Ss) (hnS : S.Nodup) (hbS : ∀ b ∈ S, b < W.w.heap.size ∧ W.c b = k)
    (he : ecs.length = ys.length) (ht : Ts.length = ys.length) (hy : ∀ (i : Nat) cs x T, ecs[i]? = some cs → ys[i]? = some x → Ts[i]? = some T → own W.w (AK W K) T cs x)
    (hn : Ts.flatten.Nodup) (hb : ∀ b ∈ Ts.flatten, b < W.w.heap.size ∧ W.c b ∈ J) (hj : k ∉ J) (hd : disj K (k :: J) = true)
    (hrow : w'.ownsRow 0 (ty α) (sz α) v' (xs.length + ys.length) (es.flatten ++ ecs.flatten)) (hg : W.w.grownBy w' v.ownBlock) (hloc : v'.ownBlock = v.ownBlock ∨ v'.ownBlock = some W.w.heap.size) :
    ∃ W', W'.w = w' ∧ Le (k :: J) W W' ∧ Ow W' k K [v'] (xs ++ ys) := by
  have hvk : ∀ b, v.ownBlock = some b → b ∈ S := fun b hb => by rw [ho.S, hb]; simp
  have hSs : ∀ b ∈ Ss.flatten, b ∈ S := fun b hb => by rw [ho.S]; exact List.mem_append_right _ hb
  let W' : CW := ⟨w', fun b => if b < W.w.heap.size ∧ b ∉ Ts.flatten then W.c b else k⟩
  have hsame : ∀ b, b < W.w.heap.size → v.ownBlock ≠ some b → w'.heap[b]? = W.w.heap[b]? := fun b hb hne => hg.block b hb (fun e => hne e.symm)
  have hcol : ∀ b, b < W.w.heap.size → W.c b ∉ J → W'.c b = W.c b := fun b hlt hne => if_pos ⟨hlt, fun hm => hne (hb b hm).2⟩
  have hle : Le (k :: J) W W' := ⟨hg.os, hg.tape, hg.output, hg.size, fun b hb hc => by
    simp only [List.mem_cons, not_or] at hc
    exact ⟨hsame b hb (fun e => hc.1 (hbS b (hvk b e)).2), hcol b hb hc.2⟩⟩
  have hA : ∀ b, AK W K b → w'.heap[b]? = W.w.heap[b]? ∧ AK W' K b := fun b hb => AK.up hle hd hb
  refine ⟨W', rfl, hle, v'.ownBlock.toList ++ (Ss ++ Ts).flatten, ⟨v', es ++ ecs, Ss ++ Ts, rfl, ?_, rfl, by simp [ho.elen, he], by simp [ho.slen, ht], fun i cs x T h1 h2 h3 => ?_⟩, ?_, fun b hb' => ?_⟩
  · rw [List.flatten_append, List.length_append]
    exact hrow
  · by_cases hi : i < xs.length
    · rw [List.getElem?_append_left (by rw [ho.elen]; exact hi)] at h1
      rw [List.getElem?_append_left hi] at h2
      rw [List.getElem?_append_left (by rw [ho.slen]; exact hi)] at h3
      have hT : ∀ b ∈ T, b ∈ Ss.flatten := fun b hb => List.mem_flatten.2 ⟨T, List.mem_of_getElem? h3, hb⟩
      refine own_mono (fun b hb => (hA b hb).2) (own_keep (fun b hb => (hA b hb).1) (fun b hb => hsame b (hbS b (hSs b (hT b hb))).1 (fun e => ?_)) (ho.at_ i cs x T h1 h2 h3))
      rw [ho.S, e, Option.toList_some, List.singleton_append, List.nodup_cons] at hnS
      exact hnS.1 (hT b hb)
    · rw [List.getElem?_append_right (by rw [ho.elen]; omega), ho.elen] at h1
      rw [List.getElem?_append_right (by omega)] at h2
      rw [List.getElem?_append_right (by rw [ho.slen]; omega), ho.slen] at h3
      have hT : ∀ b ∈ T, b ∈ Ts.flatten := fun b hb => List.mem_flatten.2 ⟨T, List.mem_of_getElem? h3, hb⟩
      refine own_mono (fun b hb => (hA b hb).2) (own_keep (fun b hb => (hA b hb).1) (fun b hb' => hsame b (hb b (hT b hb')).1 (fun e => ?_)) (hy _ cs x T h1 h2 h3))
      exact hj (by rw [← (hbS b (hvk b e)).2]; exact (hb b (hT b hb')).2)
  · rw [List.flatten_append]
    have hnSs : Ss.flatten.Nodup := by
      rw [ho.S, List.nodup_append] at hnS
      exact hnS.2.1
    have hne : ∀ a ∈ S, ∀ b ∈ Ts.flatten, a ≠ b := fun a ha b hb' e => hj (by rw [← (hbS a ha).2, e]; exact (hb b hb').2)
    rcases hloc with e | e
    · rw [e, ← List.append_assoc, ← ho.S, List.nodup_append]
      exact ⟨hnS, hn, hne⟩
    · rw [e, Option.toList_some, List.singleton_append, List.nodup_cons]
      refine ⟨fun hmem => ?_, List.nodup_append.2 ⟨hnSs, hn, fun a ha b hb' => hne a (hSs a ha) b hb'⟩⟩
      rcases List.mem_append.1 hmem with h1 | h1
      · exact Nat.lt_irrefl _ (hbS _ (hSs _ h1)).1
      · exact Nat.lt_irrefl _ (hb _ h1).1
  · have hnew : ∀ b, b < W.w.heap.size → (W.c b = k ∨ b ∈ Ts.flatten) → b < w'.heap.size ∧ W'.c b = k := fun b hlt h => by
      refine ⟨Nat.lt_of_lt_of_le hlt hg.size, ?_⟩
      rcases h with h | h
      · rw [hcol b hlt (by rw [h]; exact hj), h]
      · exact if_neg (fun hh => hh.2 h)
    rcases List.mem_append.1 hb' with h1 | h1
    · rcases hloc with e | e
      · rw [e] at h1
        have : v.ownBlock = some b := by simpa using h1
        exact hnew b (hbS b (hvk b this)).1 (.inl (hbS b (hvk b this)).2)
      · rw [e] at h1
        have hbe : b = W.w.heap.size := by simpa using h1
        have hlt := hrow.lt b (by rw [e, hbe])
        exact ⟨hlt.2, if_neg (fun hh => by rw [hbe] at hh; exact Nat.lt_irrefl _ hh.1)⟩
    · rw [List.flatten_append] at h1
      rcases List.mem_append.1 h1 with h1 | h1
      · exact hnew b (hbS b (hSs b h1)).1 (.inl (hbS b (hSs b h1)).2)
      · exact hnew b (hb b h1).1 (.inr h1)

theorem flatten_inv {β : Type} (s : Nat) : ∀ (ecs : List (List β)) (j : Nat) (u : β), (∀ c ∈ ecs, c.length = s) → ecs.flatten[j]? = some u → ∃ i cs r, ecs[i]? = some cs ∧ cs[r]? = some u ∧ j = i * s + r
  | [], j, u, _, h => by simp at h
  | e :: ecs, j, u, hl, h => by
    have he : e.length = s := hl e (by simp)
    rw [List.flatten_cons] at h
    by_cases hj : j < e.length
    · rw [List.getElem?_append_left hj] at h
      exact ⟨0, e, j, rfl, h, by omega⟩
    · rw [List.getElem?_append_right (by omega)] at h
      obtain ⟨i, cs, r, h1, h2, h3⟩ := flatten_inv s ecs _ u (fun c hc => hl c (by simp [hc])) h
      exact ⟨i + 1, cs, r, h1, h2, by rw [Nat.add_mul, Nat.one_mul]; omega⟩
theorem choose_list {γ : Type} {R : Nat → γ → Prop} : ∀ (n : Nat), (∀ i, i < n → ∃ c, R i c) → ∃ l : List γ, l.length = n ∧ ∀ i c, l[i]? = some c → R i c
  | 0, _ => ⟨[], rfl, fun i c h => by simp at h⟩
  | n + 1, h => by
    obtain ⟨l, hl, hr⟩ := choose_list n (fun i hi => h i (by omega))
    obtain ⟨c, hc⟩ := h n (by omega)
    refine ⟨l ++ [c], by simp [hl], fun i d hd => ?_⟩
    by_cases hi : i < n
    · rw [List.getElem?_append_left (by omega)] at hd
      exact hr i d hd
    · rw [List.getElem?_append_right (by omega), hl] at hd
      have : i = n := by
        have := (List.getElem?_eq_some_iff.1 hd).1
        simp at this
        omega
      subst this
      simp at hd
      exact hd ▸ hc
theorem Rd.each (h : Rd W K [v] ys) : ∃ ad c ecs, v = .slice ad ys.length c ∧ Each (fun cs x => Rd W K cs x) ecs ys ∧ ecs.flatten.length = ys.length * sz α ∧ (0 < ys.length → ∃ a, ad = some a ∧ CellsAt W.w a ecs.flatten) ∧ ∀ u ∈ ecs.flatten, u.oneCell' = true := by
  obtain ⟨ad, c, e, _, _, ha, hx⟩ := h
  have e' : v = .slice ad ys.length c := by simpa using e
  subst e'
  obtain ⟨ecs, hl, hr⟩ := choose_list (R := fun i ecs => ∀ x, ys[i]? = some x → CellsAt W.w ((slA (.slice ad ys.length c)).add (i * sz α)) ecs ∧ rd W.w (AK W K) ecs x) ys.length (fun i hi => by
    obtain ⟨ecs, h1, h2⟩ := hx i ys[i] (List.getElem?_eq_getElem hi)
    exact ⟨ecs, fun x hx => by rw [List.getElem?_eq_getElem hi] at hx; cases hx; exact ⟨h1, h2⟩⟩)
  have hE : Each (fun cs x => Rd W K cs x) ecs ys := ⟨hl, fun i cs x h1 h2 => (hr i cs h1 x h2).2⟩
  have hs : ∀ cs ∈ ecs, cs.length = sz α := fun cs hc => by obtain ⟨x, hx⟩ := hE.mem hc; exact rd_len hx
  refine ⟨ad, c, ecs, rfl, hE, ?_, fun hp => ?_, fun u hu => ?_⟩
  · rw [← hl]
    clear hE hr hl
    induction ecs with
    | nil => simp
    | cons e es ih => rw [List.flatten_cons, List.length_append, hs e (by simp), ih (fun c hc => hs c (by simp [hc])), List.length_cons, Nat.add_mul]; omega
  · obtain ⟨a, rfl, _⟩ := ha hp
    refine ⟨a, rfl, fun j u hu => ?_⟩
    obtain ⟨i, cs, r, h1, h2, rfl⟩ := flatten_inv (sz α) ecs j u hs hu
    have hi : i < ys.length := by rw [← hl]; exact (List.getElem?_eq_some_iff.1 h1).1
    have := (hr i cs h1 ys[i] (List.getElem?_eq_getElem hi)).1 r u h2
    rw [add_add] at this
    exact this
  · obtain ⟨cs, hc, hu⟩ := List.mem_flatten.1 hu
    obtain ⟨x, hx⟩ := hE.mem hc
    exact rd_one hx u hu

section ops
variable {P : Program} {ρ : Env} {ty' : TypeId} {p q : Operand} {t e : TypeId} {s b : Nat} {z : Value}
theorem T.builtin2 {w : World} {u v : Value} {args : Array Operand} {tys : Array TypeId} {R : Value → World → Prop} (hargs : args.map (ev ρ) = #[u, v]) (hr : ∃ r w', (Builtin.append_ tys ty' #[u, v]).run P w = .ok r w' ∧ R r w') :
    Tr P ρ w (.call ⟨.builtin .append, args, tys⟩) ty' R := Tr.of_run fun o h1 h2 => by
  obtain ⟨r, w', hr, hR⟩ := hr
  exact ⟨r, w', by simp only [execOp, h1, h2, resolve, invoke, builtin, Sem.run_bind, Sem.run_pure, Result.andThen_ok, hargs, hr], hR⟩
theorem append_run [hU : Und P t (.slice e)] [hI : Inf P e s b z] (he : e = ty α) (hs : s = sz α) (hz : z.cells.size = s) (hs0 : Nat.blt 0 s = true) (hb : Nat.ble b 32768 = true) {w : World} {v : Value} {n m c : Nat} {A : Option Addr} {cells news : List Value}
    (hown : w.ownsRow 0 (ty α) (sz α) v n cells) (hl : news.length = m * sz α) (hnews : 0 < m → ∃ a, A = some a ∧ CellsAt w a news) (h1 : ∀ u ∈ news, u.oneCell' = true) (hlim : n + m ≤ lim) :
    ∃ v' w', (Builtin.append_ #[t, t] ty' #[v, .slice A m c]).run P w = .ok v' w' ∧ w'.ownsRow 0 (ty α) (sz α) v' (n + m) (cells ++ news) ∧ w.grownBy w' v.ownBlock ∧ (v'.ownBlock = v.ownBlock ∨ v'.ownBlock = some w.heap.size) := by
  subst he
  subst hs
  obtain ⟨i, hi, hz', his, hib⟩ := hI.get
  have hb' : b ≤ 32768 := by simpa using hb
  have hs0' : 0 < sz α := by simpa [Nat.blt_eq] using hs0
  have h63 : n + m ≤ maxLen := by unfold lim at hlim; unfold maxLen; omega
  have hby : (n + m) * b ≤ 140737488355328 := Nat.le_trans (Nat.mul_le_mul hlim hb') (by decide)
  rcases Nat.eq_zero_or_pos m with h0 | h0
  · subst h0
    have hn : news = [] := List.eq_nil_of_length_eq_zero (by simpa using hl)
    subst hn
    refine ⟨v, w, ?_, by simpa using hown, ⟨rfl, rfl, rfl, Nat.le_refl _, fun _ _ _ => rfl⟩, .inl rfl⟩
    rcases hown.2 with ⟨rfl, rfl⟩ | ⟨g, cap, cur, rfl, _, _, hnc, _⟩
    · cases A <;> simp [Builtin.append_, run_underlying hU.h, sizeOf, typeInfo, hi, Builtin.lenOf, Builtin.firstCells, loadCells, loadCellsFrom]
    · cases A <;> simp [Builtin.append_, run_underlying hU.h, sizeOf, typeInfo, hi, Builtin.lenOf, Builtin.firstCells, hnc, storeCells, loadCells, loadCellsFrom]
  · obtain ⟨a, rfl, hc⟩ := hnews h0
    obtain ⟨v', w', hrun, h2, h3, _, h5⟩ := run_append_own_at (P := P) w 0 t ty' (ty α) i z (sz α) b hU.h hi hz' his hib hz hs0' v n cells hown a m c news hl hc h1 h63 hby (Nat.zero_le _)
    exact ⟨v', w', hrun, h2, h3, h5⟩
/-- append(s, x...): what x's elements lead to stays shared. -/
theorem T.appS {zs : List α} [Und P t (.slice e)] [Inf P e s b z] [Atm α] {v u : Value} (h : Ow W k K [v] xs) (hr : Rd W K' [u] ys) (hp : ev ρ p = v) (hq : ev ρ q = u) (hm : apM xs ys = some zs)
    (hK : (subL K' K && disj K [k]) = true := by rfl) (he : e = ty α := by rfl) (hs : s = sz α := by rfl) (hz : z.cells.size = s := by rfl) (hs0 : Nat.blt 0 s = true := by rfl) (hb : Nat.ble b 32768 = true := by rfl) :
    Tr P ρ W.w (.call ⟨.builtin .append, #[p, q], #[t, t]⟩) ty' (fun v' w' => ∃ W', W'.w = w' ∧ Le [k] W W' ∧ Ow W' k K [v'] zs) := by
  simp only [Bool.and_eq_true] at hK
  unfold apM at hm
  split at hm
  case isFalse => cases hm
  rename_i hl
  simp only [Option.some.injEq] at hm
  subst hm
  obtain ⟨ad, c, ecs, rfl, hE, hfl, hca, hone⟩ := hr.each
  obtain ⟨S, ⟨v0, es, Ss, e0, ho⟩, hnS, hbS⟩ := h
  simp only [List.cons.injEq, and_true] at e0
  subst e0
  obtain ⟨v', w', hrun, hrow, hg, hloc⟩ := append_run (P := P) (ty' := ty') (α := α) (t := t) he hs hz hs0 hb (c := c) ho.row hfl hca hone hl
  refine T.builtin2 (by simp [hp, hq]) ⟨v', w', hrun, ?_⟩
  refine grow_own (Ts := List.replicate ys.length []) [] ho hnS hbS hE.len (by simp) (fun i cs x T h1 h2 h3 => ?_) (by simp) (fun b hb => by simp at hb) (by simp) hK.2 hrow hg hloc
  have : T = [] := by
    have := List.mem_of_getElem? h3
    simpa using (List.mem_replicate.1 this).2
  subst this
  exact Atm.own ((hE.at_ i cs x h1 h2).sub hK.1)
/-- append(s, x): one element out of a literal's row; what it leads to stays shared. -/
theorem T.app1S {zs : List α} [Und P t (.slice e)] [Inf P e s b z] [Atm α] {v : Value} {j : Nat} (h : Ow W k K [v] xs) (hB : Bx W j g cs) (hr : Rd W K' cs x) (hp : ev ρ p = v) (hq : ev ρ q = .slice (some (bx g)) 1 1) (hm : apM xs [x] = some zs)
    (hK : (subL K' K && disj K [k]) = true := by rfl) (he : e = ty α := by rfl) (hs : s = sz α := by rfl) (hz : z.cells.size = s := by rfl) (hs0 : Nat.blt 0 s = true := by rfl) (hb : Nat.ble b 32768 = true := by rfl) :
    Tr P ρ W.w (.call ⟨.builtin .append, #[p, q], #[t, t]⟩) ty' (fun v' w' => ∃ W', W'.w = w' ∧ Le [k] W W' ∧ Ow W' k K [v'] zs) := by
  simp only [Bool.and_eq_true] at hK
  unfold apM at hm
  split at hm
  case isFalse => cases hm
  rename_i hl
  simp only [Option.some.injEq] at hm
  subst hm
  obtain ⟨S, ⟨v0, es, Ss, e0, ho⟩, hnS, hbS⟩ := h
  simp only [List.cons.injEq, and_true] at e0
  subst e0
  have hcl : cs.length = 1 * sz α := by rw [Nat.one_mul]; exact rd_len hr
  obtain ⟨v', w', hrun, hrow, hg, hloc⟩ := append_run (P := P) (ty' := ty') (α := α) (t := t) he hs hz hs0 hb (c := 1) ho.row hcl (fun _ => ⟨bx g, rfl, hB.cells⟩) (rd_one hr) hl
  refine T.builtin2 (by simp [hp, hq]) ⟨v', w', hrun, ?_⟩
  refine grow_own (ys := [x]) (ecs := [cs]) (Ts := [[]]) [] ho hnS hbS rfl rfl (fun i c y T h1 h2 h3 => ?_) (by simp) (fun b hb => by simp at hb) (by simp) hK.2 (by simpa using hrow) hg hloc
  have hi : i = 0 := by have := (List.getElem?_eq_some_iff.1 h1).1; simpa using this
  subst hi
  simp at h1 h2 h3
  subst h1; subst h2; subst h3
  exact Atm.own (hr.sub hK.1)
/-- append(s, x): one element out of a literal's row, with all that it owns (the colours J). -/
theorem T.app1 {zs : List α} [Und P t (.slice e)] [Inf P e s b z] {v : Value} {i : Nat} {J : List Nat} (h : Ow W k K [v] xs) (hB : Bx W i g cs) (hr : OwS W J K' cs x) (hp : ev ρ p = v) (hq : ev ρ q = .slice (some (bx g)) 1 1) (hm : apM xs [x] = some zs)
    (hK : (subL K' K && disj K (k :: J) && disj [k] J) = true := by rfl) (he : e = ty α := by rfl) (hs : s = sz α := by rfl) (hz : z.cells.size = s := by rfl) (hs0 : Nat.blt 0 s = true := by rfl) (hb : Nat.ble b 32768 = true := by rfl) :
    Tr P ρ W.w (.call ⟨.builtin .append, #[p, q], #[t, t]⟩) ty' (fun v' w' => ∃ W', W'.w = w' ∧ Le (k :: J) W W' ∧ Ow W' k K [v'] zs) := by
  simp only [Bool.and_eq_true] at hK
  unfold apM at hm
  split at hm
  case isFalse => cases hm
  rename_i hl
  simp only [Option.some.injEq] at hm
  subst hm
  have hone := hr.one
  have hcl : cs.length = 1 * sz α := by rw [Nat.one_mul]; exact hr.len
  obtain ⟨T0, to, tn, tb⟩ := hr
  obtain ⟨S, ⟨v0, es, Ss, e0, ho⟩, hnS, hbS⟩ := h
  simp only [List.cons.injEq, and_true] at e0
  subst e0
  obtain ⟨v', w', hrun, hrow, hg, hloc⟩ := append_run (P := P) (ty' := ty') (α := α) (t := t) he hs hz hs0 hb (c := 1) ho.row hcl (fun _ => ⟨bx g, rfl, hB.cells⟩) hone hl
  refine T.builtin2 (by simp [hp, hq]) ⟨v', w', hrun, ?_⟩
  refine grow_own (ys := [x]) (ecs := [cs]) (Ts := [T0]) J ho hnS hbS rfl rfl (fun i c y T h1 h2 h3 => ?_) (by simpa using tn) (fun b hb => by simp only [List.flatten_cons, List.flatten_nil, List.append_nil] at hb; exact tb b hb) (disj_not hK.2 (by simp)) hK.1.2 (by simpa using hrow) hg hloc
  have hi : i = 0 := by have := (List.getElem?_eq_some_iff.1 h1).1; simpa using this
  subst hi
  simp at h1 h2 h3
  subst h1; subst h2; subst h3
  exact own_mono (fun b hb => ⟨hb.1, subL_mem hK.1.1 hb.2⟩) to
/-- append(s, x...): all of x's elements, with all that they own (the colour j). -/
theorem T.appO {zs : List α} [Und P t (.slice e)] [Inf P e s b z] {v u : Value} {j : Nat} (h : Ow W k K [v] xs) (hr : Ow W j K' [u] ys) (hp : ev ρ p = v) (hq : ev ρ q = u) (hm : apM xs ys = some zs)
    (hK : (subL K' K && disj K [k, j] && !Nat.beq k j) = true := by rfl) (he : e = ty α := by rfl) (hs : s = sz α := by rfl) (hz : z.cells.size = s := by rfl) (hs0 : Nat.blt 0 s = true := by rfl) (hb : Nat.ble b 32768 = true := by rfl) :
    Tr P ρ W.w (.call ⟨.builtin .append, #[p, q], #[t, t]⟩) ty' (fun v' w' => ∃ W', W'.w = w' ∧ Le [k, j] W W' ∧ Ow W' k K [v'] zs) := by
  simp only [Bool.and_eq_true, Bool.not_eq_true'] at hK
  unfold apM at hm
  split at hm
  case isFalse => cases hm
  rename_i hl
  simp only [Option.some.injEq] at hm
  subst hm
  obtain ⟨T0, ⟨u0, fs, Ts, f0, to⟩, tn, tb⟩ := hr
  simp only [List.cons.injEq, and_true] at f0
  subst f0
  obtain ⟨S, ⟨v0, es, Ss, e0, ho⟩, hnS, hbS⟩ := h
  simp only [List.cons.injEq, and_true] at e0
  subst e0
  have hsub : ∀ b ∈ Ts.flatten, b ∈ T0 := fun b hb => by rw [to.S]; exact List.mem_append_right _ hb
  have hone : ∀ w ∈ fs.flatten, w.oneCell' = true := fun w hw => by
    obtain ⟨c, hc, hw⟩ := List.mem_flatten.1 hw
    obtain ⟨i, hi⟩ := List.getElem?_of_mem hc
    have hl1 : i < ys.length := by rw [← to.elen]; exact (List.getElem?_eq_some_iff.1 hi).1
    have hl2 : i < Ts.length := by rw [to.slen]; exact hl1
    exact rd_one (own_rd (A' := fun _ => True) (to.at_ i c _ _ hi (List.getElem?_eq_getElem hl1) (List.getElem?_eq_getElem hl2)) (fun _ _ => trivial) (fun _ _ => trivial)) w hw
  have hform : ∃ A c, u = .slice A ys.length c ∧ (0 < ys.length → ∃ a, A = some a ∧ CellsAt W.w a fs.flatten) := by
    rcases to.row.2 with ⟨rfl, hn⟩ | ⟨g, cap, cur, rfl, _⟩
    · exact ⟨none, 0, by rw [hn], fun hp => by omega⟩
    · exact ⟨_, cap, rfl, fun _ => ⟨_, rfl, to.row.cells (g := g) rfl⟩⟩
  obtain ⟨A, c, rfl, hca⟩ := hform
  obtain ⟨v', w', hrun, hrow, hg, hloc⟩ := append_run (P := P) (ty' := ty') (α := α) (t := t) he hs hz hs0 hb (c := c) ho.row to.row.1 hca hone hl
  refine T.builtin2 (by simp [hp, hq]) ⟨v', w', hrun, ?_⟩
  have hkj : k ≠ j := fun e => by rw [e, Nat.beq_refl] at hK; cases hK.2
  have tn' : Ts.flatten.Nodup := by rw [to.S, List.nodup_append] at tn; exact tn.2.1
  exact grow_own (Ts := Ts) [j] ho hnS hbS to.elen to.slen (fun i c y T h1 h2 h3 => own_mono (fun b hb => ⟨hb.1, subL_mem hK.1.1 hb.2⟩) (to.at_ i c y T h1 h2 h3)) tn' (fun b hb => ⟨(tb b (hsub b hb)).1, by simp [(tb b (hsub b hb)).2]⟩) (by simpa using hkj) hK.1.2 hrow hg hloc
theorem set_cells (off : Nat) : ∀ (c : List Value) (k : Nat) (pre old post : List Value), pre.length = off + k → old.length = c.length →
    (c.zipIdx k).foldl (fun (cs : Array Value) (p : Value × Nat) => cs.setIfInBounds (off + p.2) p.1) (pre ++ old ++ post).toArray = (pre ++ c ++ post).toArray
  | [], k, pre, old, post, _, hl => by
    have : old = [] := List.eq_nil_of_length_eq_zero (by simpa using hl)
    simp [this]
  | x :: c, k, pre, o :: old, post, hp, hl => by
    simp only [List.zipIdx_cons, List.foldl_cons]
    have e1 : (pre ++ o :: old ++ post).toArray.setIfInBounds (off + k) x = ((pre ++ [x]) ++ old ++ post).toArray := by
      rw [List.setIfInBounds_toArray]
      congr 1
      rw [← hp]
      simp [List.set_append]
    rw [e1]
    have := set_cells off c (k + 1) (pre ++ [x]) old post (by simp; omega) (by simpa using hl)
    rw [this]
    simp
  | x :: c, k, pre, [], post, hp, hl => by simp at hl
theorem fill_all (s : Nat) : ∀ (vs : List Value) (i : Nat) (pre zs : List Value), pre.length = i * s → zs.length = vs.length * s → (∀ v ∈ vs, v.cells.size = s) →
    Instr.fill (fun i => some (i * s, s)) (pre ++ zs).toArray ((vs.zipIdx i).map fun p => (p.2, p.1)) = some (pre ++ (vs.map (·.cells.toList)).flatten).toArray
  | [], i, pre, zs, _, hz, _ => by
    have : zs = [] := List.eq_nil_of_length_eq_zero (by simpa using hz)
    simp [Instr.fill, this]
  | v :: vs, i, pre, zs, hp, hz, hv => by
    have hs := hv v (by simp)
    simp only [List.length_cons, Nat.add_mul, Nat.one_mul] at hz
    have e1 : zs = zs.take s ++ zs.drop s := (List.take_append_drop s zs).symm
    simp only [List.zipIdx_cons, List.map_cons, Instr.fill, hs]
    rw [if_neg (by simp [hp]; omega)]
    have h1 := set_cells (i * s) v.cells.toList 0 pre (zs.take s) (zs.drop s) (by simpa using hp) (by simp [hs]; omega)
    have h2 : (v.cells.zipIdx.foldl (fun cs (x : Value × Nat) => cs.setIfInBounds (i * s + x.2) x.1) (pre ++ zs).toArray) = (pre ++ v.cells.toList ++ zs.drop s).toArray := by
      rw [← h1, List.append_assoc, ← e1, ← Array.foldl_toList, Array.toList_zipIdx]
    rw [h2]
    have := fill_all s vs (i + 1) (pre ++ v.cells.toList) (zs.drop s) (by simp [hs, hp, Nat.add_mul]) (by simp; omega) (fun u hu => hv u (by simp [hu]))
    rw [this]
    simp
theorem run_bs [hU : Und P t (.slice e)] [hI : Inf P e s b z] {n : Nat} {parts : Array (Nat × Operand)} {vs : List Value} (hn : vs.length = n) (hp : parts.toList.map (fun p => (p.1, ev ρ p.2)) = (vs.zipIdx 0).map fun p => (p.2, p.1)) (hv : ∀ v ∈ vs, v.cells.size = s) (hlim : n * s ≤ 16777216) (w : World) :
    ∀ o : Oper, o.op = .buildSlice t n parts → (execOp (ev ρ) o).run P w = .ok (.value (.slice (some (bx w.heap.size)) n n)) (w.alloc (.cells (vs.map (·.cells.toList)).flatten.toArray e)) := fun o h1 => by
  obtain ⟨i, hi, hz', his, _⟩ := hI.get
  have hpl : (parts.map fun p => (p.1, ev ρ p.2)).toList = (vs.zipIdx 0).map fun p => (p.2, p.1) := by rw [Array.toList_map]; exact hp
  have key : ∀ zz : Array Value, Instr.fill (fun i => some (i * s, s)) ((Array.range (n * s)).map (fun j => zz[j % zz.size]!)) (parts.map fun p => (p.1, ev ρ p.2)).toList = some (vs.map (·.cells.toList)).flatten.toArray := by
    intro zz
    rw [hpl]
    exact (congrArg (fun A => Instr.fill (fun i => some (i * s, s)) A ((vs.zipIdx 0).map fun p => (p.2, p.1))) (by apply Array.ext'; simp)).trans (fill_all s vs 0 [] ((Array.range (n * s)).map (fun j => zz[j % zz.size]!)).toList (by simp) (by simp [hn]) hv)
  simp only [execOp, h1, Instr.buildSlice, Sem.run_bind, run_underlying hU.h, Result.andThen_ok, sizeOf, typeInfo, run_program, hi, his, Sem.run_pure, Sem.run_ite]
  rw [if_neg (by omega)]
  by_cases h0 : n * s = 0
  · rw [if_pos h0]
    simp only [Sem.run_pure, Result.andThen_ok, key, newRow, Sem.run_bind, run_newObj]
    rfl
  · rw [if_neg h0]
    simp only [zeroValue, typeInfo, Sem.run_bind, run_program, hi, Sem.run_pure, Result.andThen_ok, hz', key, newRow, run_newObj]
    rfl
/-- A literal's row, as a block. -/
theorem T.bs (k : Nat) [Und P t (.slice e)] [Inf P e s b z] {n : Nat} {parts : Array (Nat × Operand)} (vs : List Value) {cs : List Value} (hc : (vs.map (·.cells.toList)).flatten = cs) (hp : parts.toList.map (fun p => (p.1, ev ρ p.2)) = (vs.zipIdx 0).map fun p => (p.2, p.1)) (hv : ∀ v ∈ vs, v.cells.size = s)
    (hn : vs.length = n := by rfl) (hlim : Nat.ble (n * s) 16777216 = true := by rfl) :
    Tr P ρ W.w (.buildSlice t n parts) ty' (fun u w' => ∃ g W', W'.w = w' ∧ u = .slice (some (bx g)) n n ∧ Le [] W W' ∧ Bx W' k g cs) := Tr.of_run fun o h1 _ => by
  subst hc
  exact ⟨_, _, run_bs hn hp hv (by simpa using hlim) _ o h1, _, W.new k (.cells (vs.map (·.cells.toList)).flatten.toArray e), rfl, rfl, Le.new _ _, Bx.new e⟩
/-- A literal as a slice of the call's own; what its elements lead to stays shared. -/
theorem T.bsS (k : Nat) (K : List Nat) [Und P t (.slice e)] [Inf P e s b z] [Atm α] {n : Nat} {parts : Array (Nat × Operand)} (vs : List Value) (hE : Each (fun cs x => Rd W K cs x) (vs.map (·.cells.toList)) xs) (hp : parts.toList.map (fun p => (p.1, ev ρ p.2)) = (vs.zipIdx 0).map fun p => (p.2, p.1))
    (hs : s = sz α := by rfl) (he : e = ty α := by rfl) (hn : vs.length = n := by rfl) (hs0 : Nat.blt 0 s = true := by rfl) (hlim : Nat.ble (n * s) 16777216 = true := by rfl) :
    Tr P ρ W.w (.buildSlice t n parts) ty' (fun u w' => ∃ W', W'.w = w' ∧ Le [] W W' ∧ Ow W' k K [u] xs) := Tr.of_run fun o h1 _ => by
  have hs0' : 0 < s := by simpa [Nat.blt_eq] using hs0
  have hlim' : n * s ≤ 16777216 := by simpa using hlim
  have hn' : n ≤ 16777216 := Nat.le_trans (Nat.le_mul_of_pos_right n hs0') hlim'
  have hxl : xs.length = n := by rw [← hE.len]; simpa using hn
  have hcl : ∀ cs ∈ vs.map (·.cells.toList), cs.length = s := fun cs hc => by obtain ⟨x, hx⟩ := hE.mem hc; rw [hs]; exact rd_len hx
  have hfl : (vs.map (·.cells.toList)).flatten.length = n * s := by
    have : ∀ l : List (List Value), (∀ c ∈ l, c.length = s) → l.flatten.length = l.length * s := by
      intro l
      induction l with
      | nil => intro _; simp
      | cons e es ih => intro h; rw [List.flatten_cons, List.length_append, h e (by simp), ih (fun c hc => h c (by simp [hc])), List.length_cons, Nat.add_mul]; omega
    rw [this _ hcl]
    simp [hn]
  refine ⟨_, _, run_bs hn hp (fun v hv => by have := hcl _ (List.mem_map_of_mem (f := fun v : Value => v.cells.toList) hv); simpa using this) hlim' _ o h1, W.new k (.cells (vs.map (·.cells.toList)).flatten.toArray e), rfl, Le.new _ _, [W.w.heap.size], ⟨_, vs.map (·.cells.toList), List.replicate n [], rfl, ?_, by simp [Value.ownBlock], hE.len, by simp [hxl], fun i cs x T h1 h2 h3 => ?_⟩, by simp, fun b hb => ?_⟩
  · subst he
    have := World.ownsRow_lit (base := 0) (e := ty α) (size := s) W.w (vs.map (·.cells.toList)).flatten.toArray n (Nat.zero_le _) (by unfold maxLen; omega) (by simpa using hfl)
    rw [hxl, ← hs]
    exact this
  · have : T = [] := (List.mem_replicate.1 (List.mem_of_getElem? h3)).2
    subst this
    exact Atm.own ((hE.at_ i cs x h1 h2).up (Le.new k _) (disj_nil K))
  · simp only [List.mem_singleton] at hb
    subst hb
    exact ⟨by simp [CW.new], by simp [CW.new, Nat.beq_refl]⟩
/-- An empty literal. -/
theorem T.lit0 (k : Nat) (K : List Nat) [hU : Und P t (.slice e)] [hI : Inf P e s b z] (he : e = ty α := by rfl) : Tr P ρ W.w (.buildSlice t 0 #[]) ty' (fun u w' => ∃ W', W'.w = w' ∧ Le [] W W' ∧ Ow W' k K [u] ([] : List α)) := Tr.of_run fun o h1 _ => by
  obtain ⟨i, hi, hz', his, _⟩ := hI.get
  refine ⟨.slice (some (bx W.w.heap.size)) 0 0, W.w.alloc (.cells #[] e), ?_, W.new k (.cells #[] e), rfl, Le.new _ _, [W.w.heap.size], ⟨_, [], [], rfl, ?_, by simp [Value.ownBlock], rfl, rfl, fun i cs x T h => by simp at h⟩, by simp, fun b hb => ?_⟩
  · simp only [execOp, h1, Instr.buildSlice, Sem.run_bind, run_underlying hU.h, Result.andThen_ok, sizeOf, typeInfo, run_program, hi, his, Sem.run_pure, Sem.run_ite, Nat.zero_mul]
    simp [Instr.fill, newRow, Array.range_zero']
  · subst he
    exact World.ownsRow_lit (base := 0) (e := ty α) (size := sz α) W.w #[] 0 (Nat.zero_le _) (Nat.zero_le _) (by simp)
  · simp only [List.mem_singleton] at hb
    subst hb
    exact ⟨by simp [CW.new], by simp [CW.new, Nat.beq_refl]⟩
end ops
end
end Go.Sx
