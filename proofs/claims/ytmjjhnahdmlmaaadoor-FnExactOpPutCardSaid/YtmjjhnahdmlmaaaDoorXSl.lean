/- Literals of owned elements; a part taken out of an owned row. Conditions: none; each rule's own premises. -/
import Derived.Test.YtmjjhnahdmlmaaaDoorXSk
namespace Go.Sx
open Go Go.RowKit Rp
set_option linter.unusedSimpArgs false
set_option linter.unusedVariables false
section
variable {P : Program} {ρ : Env} {α β : Type} [Rp α] [Rp β] {W : CW} {t e s b ty' : Nat} {z : Value}
/-- Several values, each owned, all apart. -/
def OwL (W : CW) (J : List Nat) (css : List (List Value)) (xs : List α) : Prop := ∃ Ss : List (List Nat), css.length = xs.length ∧ Ss.length = xs.length ∧
  (∀ (i : Nat) cs x T, css[i]? = some cs → xs[i]? = some x → Ss[i]? = some T → own W.w (AK W []) T cs x) ∧ Ss.flatten.Nodup ∧ ∀ b ∈ Ss.flatten, b < W.w.heap.size ∧ W.c b ∈ J
theorem OwL.nil : OwL W [] [] ([] : List α) := ⟨[], rfl, rfl, fun i cs x T h => by simp at h, by simp, by simp⟩
theorem OwL.cons {J J' : List Nat} {cs : List Value} {css : List (List Value)} {x : α} {xs : List α} (h : OwS W J [] cs x) (r : OwL W J' css xs) (hd : disj J J' = true := by rfl) : OwL W (J ++ J') (cs :: css) (x :: xs) := by
  obtain ⟨S, ho, hn, hb⟩ := h
  obtain ⟨Ss, h1, h2, h3, h4, h5⟩ := r
  refine ⟨S :: Ss, by simp [h1], by simp [h2], fun i cs x T a b c => ?_, ?_, fun b hb' => ?_⟩
  · cases i with
    | zero => simp at a b c; subst a b c; exact ho
    | succ i => exact h3 i cs x T (by simpa using a) (by simpa using b) (by simpa using c)
  · rw [List.flatten_cons, List.nodup_append]
    exact ⟨hn, h4, fun a ha b hb' e => disj_not hd (hb a ha).2 (by rw [e]; exact (h5 b hb').2)⟩
  · rw [List.flatten_cons] at hb'
    rcases List.mem_append.1 hb' with h | h
    · exact ⟨(hb b h).1, List.mem_append_left _ (hb b h).2⟩
    · exact ⟨(h5 b h).1, List.mem_append_right _ (h5 b h).2⟩
theorem mapn : ([] : List Value).map (·.cells.toList) = [] := rfl
theorem mapc {v : Value} {vs : List Value} {css : List (List Value)} (h : v.oneCell' = true) (t : vs.map (·.cells.toList) = css) : (v :: vs).map (·.cells.toList) = [v] :: css := by
  rw [List.map_cons, t, cells_list h]
theorem mapa {v : Value} {vs : List Value} {cs : List Value} {css : List (List Value)} (h : v.cells.toList = cs) (t : vs.map (·.cells.toList) = css) : (v :: vs).map (·.cells.toList) = cs :: css := by
  rw [List.map_cons, t, h]
theorem bsL {J : List Nat} {vs : List Value} {xs : List α} (css : List (List Value)) (h : vs.map (·.cells.toList) = css) (k : OwL W J css xs) : OwL W J (vs.map (·.cells.toList)) xs := h ▸ k
theorem T.bsO (k : Nat) [Und P t (.slice e)] [Inf P e s b z] {n : Nat} {J : List Nat} {parts : Array (Nat × Operand)} {xs : List α} (vs : List Value) (hE : OwL W J (vs.map (·.cells.toList)) xs) (hp : parts.toList.map (fun p => (p.1, ev ρ p.2)) = (vs.zipIdx 0).map fun p => (p.2, p.1))
    (hs : s = sz α := by rfl) (he : e = ty α := by rfl) (hn : vs.length = n := by rfl) (hs0 : Nat.blt 0 s = true := by rfl) (hlim : Nat.ble (n * s) 16777216 = true := by rfl) :
    Tr P ρ W.w (.buildSlice t n parts) ty' (fun u w' => ∃ W', W'.w = w' ∧ Le J W W' ∧ Ow W' k [] [u] xs) := Tr.of_run fun o h1 _ => by
  have hs0' : 0 < s := by simpa [Nat.blt_eq] using hs0
  have hlim' : n * s ≤ 16777216 := by simpa using hlim
  have hn' : n ≤ 16777216 := Nat.le_trans (Nat.le_mul_of_pos_right n hs0') hlim'
  obtain ⟨Ss, hel, hsl, hat, hnd, hbd⟩ := hE
  have hxl : xs.length = n := by rw [← hel]; simpa using hn
  have hcl : ∀ cs ∈ vs.map (·.cells.toList), cs.length = s := fun cs hc => by
    obtain ⟨i, hi⟩ := List.getElem?_of_mem hc
    have l1 : i < xs.length := by rw [← hel]; exact (List.getElem?_eq_some_iff.1 hi).1
    have l2 : i < Ss.length := by rw [hsl]; exact l1
    rw [hs]
    exact own_len (hat i cs _ _ hi (List.getElem?_eq_getElem l1) (List.getElem?_eq_getElem l2))
  have hfl : (vs.map (·.cells.toList)).flatten.length = n * s := by
    have : ∀ l : List (List Value), (∀ c ∈ l, c.length = s) → l.flatten.length = l.length * s := by
      intro l
      induction l with
      | nil => intro _; simp
      | cons e es ih => intro h; rw [List.flatten_cons, List.length_append, h e (by simp), ih (fun c hc => h c (by simp [hc])), List.length_cons, Nat.add_mul]; omega
    rw [this _ hcl]
    simp [hn]
  let W1 : CW := W.new k (.cells (vs.map (·.cells.toList)).flatten.toArray e)
  let W' : CW := ⟨W1.w, fun b => if b ∈ Ss.flatten then k else W1.c b⟩
  have hold : ∀ b, b < W.w.heap.size → W1.w.heap[b]? = W.w.heap[b]? ∧ W1.c b = W.c b := fun b hb => (Le.new (L := []) k _ : Le [] W W1).keep b hb (by simp)
  have hle : Le J W W' := ⟨(Le.new (L := []) k _ : Le [] W W1).os, (Le.new (L := []) k _ : Le [] W W1).tape, (Le.new (L := []) k _ : Le [] W W1).output, (Le.new (L := []) k _ : Le [] W W1).size, fun b hb hc => ⟨(hold b hb).1, by
    show (if b ∈ Ss.flatten then k else W1.c b) = W.c b
    rw [if_neg fun hm => hc (hbd b hm).2]
    exact (hold b hb).2⟩⟩
  refine ⟨_, _, run_bs hn hp (fun v hv => by have := hcl _ (List.mem_map_of_mem (f := fun v : Value => v.cells.toList) hv); simpa using this) hlim' _ o h1, W', rfl, hle, W.w.heap.size :: Ss.flatten, ⟨_, vs.map (·.cells.toList), Ss, rfl, ?_, by simp [Value.ownBlock], hel, hsl, fun i cs x T h1 h2 h3 => ?_⟩, ?_, fun b hb => ?_⟩
  · subst he
    have := World.ownsRow_lit (base := 0) (e := ty α) (size := s) W.w (vs.map (·.cells.toList)).flatten.toArray n (Nat.zero_le _) (by unfold maxLen; omega) (by simpa using hfl)
    rw [hxl, ← hs]
    exact this
  · refine own_mono (A := AK W []) (fun b hb => absurd hb.2 (by simp)) (own_keep (fun b hb => absurd hb.2 (by simp)) (fun b hb => ?_) (hat i cs x T h1 h2 h3))
    exact (hold b (hbd b (List.mem_flatten.2 ⟨T, List.mem_of_getElem? h3, hb⟩)).1).1
  · rw [List.nodup_cons]
    exact ⟨fun hm => by have := (hbd _ hm).1; omega, hnd⟩
  · rcases List.mem_cons.1 hb with e0 | hm
    · subst e0
      refine ⟨by simp [W', W1, CW.new], ?_⟩
      show (if W.w.heap.size ∈ Ss.flatten then k else W1.c W.w.heap.size) = k
      rw [if_neg fun hm => by have := (hbd _ hm).1; omega]
      simp [W1, CW.new, Nat.beq_refl]
    · exact ⟨Nat.lt_of_lt_of_le (hbd b hm).1 hle.size, if_pos hm⟩
end
end Go.Sx
