/- A part of an element of an owned row, lent and given back. Conditions: none; each rule's own premises. -/
import Derived.Test.YtmjjhnahdmlmaaaDoorXSj
namespace Go.Sx
open Go Go.RowKit Rp
set_option linter.unusedSimpArgs false
set_option linter.unusedVariables false

/-- The part 'get' of a value lies in its cell j, and may be turned into another. -/
class Fl (α β : Type) [Rp α] [Rp β] (j : Nat) (get : outParam (α → β)) (set : outParam (α → β → α)) : Prop where
  lens : ∀ {w : World} {A : Nat → Prop} {S : List Nat} {cs : List Value} {x : α}, own w A S cs x → ∃ u T R, cs[j]? = some u ∧ own w A T [u] (get x) ∧ S.Perm (T ++ R) ∧
    ∀ {w' : World} {T' : List Nat} {y : β}, (∀ b, A b → w'.heap[b]? = w.heap[b]?) → (∀ b ∈ R, w'.heap[b]? = w.heap[b]?) → own w' A T' [u] y → ∃ S', own w' A S' cs (set x y) ∧ S'.Perm (T' ++ R)
theorem ret0 {P : Program} {R : Value → World → Prop} {ρ : Env} {w : World} (h : R (.tuple #[]) w) : RetP P [] R .ret ρ w := ⟨[], trivial, h⟩
theorem ret3 {P : Program} {t t' t2 : Nat} {R : Value → World → Prop} {ρ : Env} {w : World} {v v' v2 : Value} (h : ρ t = v) (h' : ρ t' = v') (h2 : ρ t2 = v2) (hR : R (.tuple #[v, v', v2]) w) : RetP P [.tmp t, .tmp t', .tmp t2] R .ret ρ w := ⟨[v, v', v2], ⟨h.symm, h'.symm, h2.symm, trivial⟩, hR⟩
theorem Bx.dyeO {W : CW} {k g : Nat} {cs : List Value} (h : Bx W k g cs) (k' : Nat) : ∃ W', W'.w = W.w ∧ Le [k] W W' ∧ Bx W' k' g cs := ⟨W.dye k k', rfl, Le.dye k k', CW.dye_new h.1, h.2⟩
section
variable {α β γ : Type} [Rp α] [Rp β] [Rp γ]
theorem Fl.self (h : sz α = 1) : Fl α α 0 (fun x => x) (fun _ y => y) where
  lens := fun {w A S cs x} ho => by
    have hl := own_len ho
    rw [h] at hl
    match cs, hl with
    | [u], _ => exact ⟨u, S, [], rfl, ho, by simp, fun {w' T' y} _ _ h => ⟨T', h, by simp⟩⟩
instance : Fl (List α) (List α) 0 (fun x => x) (fun _ y => y) := Fl.self rfl
theorem Fl.fst (h : sz α = 1) : Fl (α × β) α 0 (fun x => x.1) (fun x y => (y, x.2)) where
  lens := fun {w A S cs x} ho => by
    obtain ⟨c, d, S1, S2, rfl, rfl, h1, h2⟩ := ho
    have hl := own_len h1
    rw [h] at hl
    match c, hl with
    | [u], _ => exact ⟨u, S1, S2, rfl, h1, List.Perm.refl _, fun {w' T' y} hA hR h => ⟨T' ++ S2, ⟨[u], d, T', S2, rfl, rfl, h, own_keep hA hR h2⟩, List.Perm.refl _⟩⟩
theorem Fl.snd {j : Nat} {get : β → γ} {set : β → γ → β} (h : sz α = 1) (f : Fl β γ j get set) : Fl (α × β) γ (j + 1) (fun x => get x.2) (fun x y => (x.1, set x.2 y)) where
  lens := fun {w A S cs x} ho => by
    obtain ⟨c, d, S1, S2, rfl, rfl, h1, h2⟩ := ho
    have hl := own_len h1
    rw [h] at hl
    match c, hl with
    | [u0], _ =>
      obtain ⟨u, T, R, hu, ht, hp, hw⟩ := f.lens h2
      refine ⟨u, T, S1 ++ R, by simpa using hu, ht, ?_, fun {w' T' y} hA hR h => ?_⟩
      · exact (List.Perm.append_left S1 hp).trans (by
          rw [← List.append_assoc, ← List.append_assoc]
          exact List.Perm.append_right R List.perm_append_comm)
      · obtain ⟨S', h3, h4⟩ := hw hA (fun b hb => hR b (List.mem_append_right _ hb)) h
        refine ⟨S1 ++ S', ⟨[u0], d, S1, S', rfl, rfl, own_keep hA (fun b hb => hR b (List.mem_append_left _ hb)) h1, h3⟩, ?_⟩
        exact (List.Perm.append_left S1 h4).trans (by
          rw [← List.append_assoc, ← List.append_assoc]
          exact List.Perm.append_right R List.perm_append_comm)
theorem split_at {δ : Type} : ∀ (Ss : List (List δ)) (i : Nat) (T : List δ), Ss[i]? = some T → ∃ A B, Ss.flatten = A ++ (T ++ B) ∧ ∀ T', (Ss.set i T').flatten = A ++ (T' ++ B)
  | [], i, T, h => by simp at h
  | U :: Ss, 0, T, h => by
    have : U = T := by simpa using h
    subst this
    exact ⟨[], Ss.flatten, by simp, fun T' => by simp⟩
  | U :: Ss, i + 1, T, h => by
    obtain ⟨A, B, h1, h2⟩ := split_at Ss i T (by simpa using h)
    exact ⟨U ++ A, B, by simp [h1], fun T' => by simp [h2]⟩
theorem perm_mid {δ : Type} (O A T R B : List δ) {S : List δ} (h : S.Perm (T ++ R)) : (O ++ (A ++ (S ++ B))).Perm (T ++ (O ++ (A ++ (R ++ B)))) := by
  have h1 : (O ++ (A ++ (S ++ B))).Perm (O ++ (A ++ ((T ++ R) ++ B))) := List.Perm.append_left O (List.Perm.append_left A (List.Perm.append_right B h))
  refine h1.trans ?_
  have h2 : O ++ (A ++ ((T ++ R) ++ B)) = (O ++ A) ++ (T ++ (R ++ B)) := by simp
  have h3 : T ++ (O ++ (A ++ (R ++ B))) = T ++ ((O ++ A) ++ (R ++ B)) := by simp
  rw [h2, h3, ← List.append_assoc, ← List.append_assoc T]
  exact List.Perm.append_right _ List.perm_append_comm
/-- A part of an owned row's element is lent: it gets the colour j; given back turned, it turns the element. -/
theorem Ow.lend {W : CW} {c j jf : Nat} {v uv : Value} {xs : List α} {x : α} {i : Int} {get : α → β} {set : α → β → α} [f : Fl α β jf get set] (h : Ow W c [] [v] xs) (hx : gi xs i = some x) (hcell : W.w.cell? (((slA v).add (i.toNat * sz α)).add jf) = some uv) (hj : Nat.beq j c = false) :
    ∃ W1, W1.w = W.w ∧ Le [c] W W1 ∧ Ow W1 j [] [uv] (get x) ∧ ∀ W2 y, Le [j] W1 W2 → Ow W2 j [] [uv] y → ∃ W3, W3.w = W2.w ∧ Le [c, j] W2 W3 ∧ ∃ ys, siM xs i (set x y) = some ys ∧ Ow W3 c [] [v] ys := by
  obtain ⟨S, ⟨v0, es, Ss, e0, ho⟩, hnS, hbS⟩ := h
  simp only [List.cons.injEq, and_true] at e0
  subst e0
  obtain ⟨h0, hxi, hil⟩ := gi_some hx
  have l1 : i.toNat < es.length := by rw [ho.elen]; exact hil
  have l2 : i.toNat < Ss.length := by rw [ho.slen]; exact hil
  have hel := ho.at_ i.toNat _ x _ (List.getElem?_eq_getElem l1) hxi (List.getElem?_eq_getElem l2)
  obtain ⟨u, T, R, hu, ht, hp, hw⟩ := f.lens hel
  have huv : uv = u := by
    rcases ho.row.2 with ⟨rfl, hn⟩ | ⟨g, cap, cur, rfl, hb, hg, rest⟩
    · omega
    · have h1 := ho.row.cells (g := g) rfl _ u (flatten_at (sz α) es i.toNat _ ho.len (List.getElem?_eq_getElem l1) jf u hu)
      rw [add_add] at hcell
      rw [show (slA (.slice (some ⟨g, 0, none⟩) xs.length cap)) = ⟨g, 0, none⟩ from rfl] at hcell
      rw [h1] at hcell
      exact (Option.some.inj hcell).symm
  subst huv
  have hne : j ≠ c := fun e => by rw [e, Nat.beq_refl] at hj; cases hj
  obtain ⟨A, B, hf1, hf2⟩ := split_at Ss i.toNat _ (List.getElem?_eq_getElem l2)
  -- all blocks of the row but those of the part
  let Q := v.ownBlock.toList ++ (A ++ (R ++ B))
  have hSp : S.Perm (T ++ Q) := by
    rw [ho.S, hf1]
    exact perm_mid _ _ _ _ _ hp
  have hTQ : (T ++ Q).Nodup := hSp.nodup_iff.1 hnS
  rw [List.nodup_append] at hTQ
  obtain ⟨hT, hQ, hTQ⟩ := hTQ
  have hTb : ∀ b ∈ T, b < W.w.heap.size ∧ W.c b = c := fun b hb => hbS b (hSp.mem_iff.2 (List.mem_append_left _ hb))
  have hQb : ∀ b ∈ Q, b < W.w.heap.size ∧ W.c b = c := fun b hb => hbS b (hSp.mem_iff.2 (List.mem_append_right _ hb))
  let W1 : CW := ⟨W.w, fun b => if b ∈ T then j else W.c b⟩
  refine ⟨W1, rfl, ⟨rfl, rfl, rfl, Nat.le_refl _, fun b hb hc => ⟨rfl, if_neg fun hm => hc (by simp [(hTb b hm).2])⟩⟩, ⟨T, own_mono (fun b hb => absurd hb.2 (by simp)) ht, hT, fun b hb => ⟨(hTb b hb).1, if_pos hb⟩⟩, ?_⟩
  rintro W2 y l ⟨T', ho', hnT', hbT'⟩
  have hQ1 : ∀ b ∈ Q, W1.c b = c := fun b hb => by
    show (if b ∈ T then j else W.c b) = c
    rw [if_neg fun hm => hTQ b hm b hb rfl]
    exact (hQb b hb).2
  have hQ2 : ∀ b ∈ Q, W2.w.heap[b]? = W.w.heap[b]? ∧ W2.c b = c := fun b hb => by
    obtain ⟨h1, h2⟩ := l.keep b (hQb b hb).1 (by rw [hQ1 b hb]; simpa using Ne.symm hne)
    exact ⟨h1, by rw [h2, hQ1 b hb]⟩
  have hRQ : ∀ b ∈ R, b ∈ Q := fun b hb => List.mem_append_right _ (List.mem_append_right _ (List.mem_append_left _ hb))
  obtain ⟨S'', ho2, hp2⟩ := hw (w' := W2.w) (fun b hb => absurd hb.2 (by simp)) (fun b hb => (hQ2 b (hRQ b hb)).1) (own_mono (A' := AK W []) (fun b hb => absurd hb.2 (by simp)) ho')
  have hS3 : (v.ownBlock.toList ++ (Ss.set i.toNat S'').flatten).Perm (T' ++ Q) := by
    rw [hf2]
    exact perm_mid _ _ _ _ _ hp2
  have hdis : ∀ a ∈ T', ∀ b ∈ Q, a ≠ b := fun a ha b hb e => hne (by rw [← (hbT' a ha).2, e, (hQ2 b hb).2])
  let W3 : CW := ⟨W2.w, fun b => if b ∈ T' then c else W2.c b⟩
  refine ⟨W3, rfl, ⟨rfl, rfl, rfl, Nat.le_refl _, fun b hb hc => ⟨rfl, if_neg fun hm => hc (by simp [(hbT' b hm).2])⟩⟩, xs.set i.toNat (set x y), ?_, ?_⟩
  · unfold siM
    rw [if_pos ⟨h0, by omega⟩]
  refine ⟨v.ownBlock.toList ++ (Ss.set i.toNat S'').flatten, ⟨v, es, Ss.set i.toNat S'', rfl, ?_, rfl, by simp [ho.elen], by simp [ho.slen], fun k cs z U h1 h2 h3 => ?_⟩, ?_, fun b hb => ?_⟩
  · rw [List.length_set]
    refine ⟨ho.row.1, ?_⟩
    rcases ho.row.2 with hn | ⟨g, cap, cur, rfl, hb, hg, rest⟩
    · exact .inl hn
    · exact .inr ⟨g, cap, cur, rfl, hb, by rw [(hQ2 g (List.mem_append_left _ (by simp [Value.ownBlock]))).1]; exact hg, rest⟩
  · by_cases e : i.toNat = k
    · subst e
      rw [List.getElem?_set_self hil] at h2
      rw [List.getElem?_set_self l2] at h3
      rw [List.getElem?_eq_getElem l1] at h1
      cases h1; cases h2; cases h3
      exact own_mono (fun b hb => absurd hb.2 (by simp)) ho2
    · rw [List.getElem?_set_ne e] at h2 h3
      refine own_mono (A := AK W []) (fun b hb => absurd hb.2 (by simp)) (own_keep (fun b hb => absurd hb.2 (by simp)) (fun b hb' => ?_) (ho.at_ k cs z U h1 h2 h3))
      refine (hQ2 b ?_).1
      have hfl : b ∈ (Ss.set i.toNat ([] : List Nat)).flatten := by
        refine List.mem_flatten.2 ⟨U, ?_, hb'⟩
        have : (Ss.set i.toNat ([] : List Nat))[k]? = some U := by rw [List.getElem?_set_ne e]; exact h3
        exact List.mem_of_getElem? this
      rw [hf2, List.nil_append] at hfl
      rcases List.mem_append.1 hfl with hm | hm
      · exact List.mem_append_right _ (List.mem_append_left _ hm)
      · exact List.mem_append_right _ (List.mem_append_right _ (List.mem_append_right _ hm))
  · rw [hS3.nodup_iff, List.nodup_append]
    exact ⟨hnT', hQ, hdis⟩
  · rcases List.mem_append.1 (hS3.mem_iff.1 hb) with hm | hm
    · exact ⟨(hbT' b hm).1, if_pos hm⟩
    · refine ⟨Nat.lt_of_lt_of_le (hQb b hm).1 l.size, ?_⟩
      show (if b ∈ T' then c else W2.c b) = c
      rw [if_neg fun h => hdis b h b hm rfl]
      exact (hQ2 b hm).2
end
end Go.Sx
