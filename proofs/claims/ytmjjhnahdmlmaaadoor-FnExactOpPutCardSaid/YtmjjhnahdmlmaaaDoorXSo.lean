/- An owned row one of whose elements stands open at one cell; a store closes it. Conditions: none; each rule's own premises. -/
import Derived.Test.YtmjjhnahdmlmaaaDoorXSn
namespace Go.Sx
open Go Go.RowKit Rp
set_option linter.unusedSimpArgs false
set_option linter.unusedVariables false

/-- The part 'get' of a value lies in its cell j; another cell with another part may be put there. -/
class Fs (α β : Type) [Rp α] [Rp β] (j : Nat) (get : outParam (α → β)) (set : outParam (α → β → α)) : Prop where
  lt : j < sz α
  lens : ∀ {w : World} {A : Nat → Prop} {S : List Nat} {cs : List Value} {x : α}, own w A S cs x → ∃ u T R, cs[j]? = some u ∧ own w A T [u] (get x) ∧ S.Perm (T ++ R) ∧
    ∀ {w' : World} {T' : List Nat} {u' : Value} {y : β}, (∀ b, A b → w'.heap[b]? = w.heap[b]?) → (∀ b ∈ R, w'.heap[b]? = w.heap[b]?) → own w' A T' [u'] y → ∃ S', own w' A S' (cs.set j u') (set x y) ∧ S'.Perm (T' ++ R)
section
variable {α β γ : Type} [Rp α] [Rp β] [Rp γ]
theorem Fs.self (h : sz α = 1) : Fs α α 0 (fun x => x) (fun _ y => y) where
  lt := by omega
  lens := fun {w A S cs x} ho => by
    have hl := own_len ho
    rw [h] at hl
    match cs, hl with
    | [u], _ => exact ⟨u, S, [], rfl, ho, by simp, fun {w' T' u' y} _ _ h => ⟨T', h, by simp⟩⟩
theorem Fs.fst (h : sz α = 1) : Fs (α × β) α 0 (fun x => x.1) (fun x y => (y, x.2)) where
  lt := by show 0 < sz α + sz β; omega
  lens := fun {w A S cs x} ho => by
    obtain ⟨c, d, S1, S2, rfl, rfl, h1, h2⟩ := ho
    have hl := own_len h1
    rw [h] at hl
    match c, hl with
    | [u], _ => exact ⟨u, S1, S2, rfl, h1, List.Perm.refl _, fun {w' T' u' y} hA hR h => ⟨T' ++ S2, ⟨[u'], d, T', S2, rfl, rfl, h, own_keep hA hR h2⟩, List.Perm.refl _⟩⟩
theorem Fs.snd {j : Nat} {get : β → γ} {set : β → γ → β} (h : sz α = 1) (f : Fs β γ j get set) : Fs (α × β) γ (j + 1) (fun x => get x.2) (fun x y => (x.1, set x.2 y)) where
  lt := by have := f.lt; show j + 1 < sz α + sz β; omega
  lens := fun {w A S cs x} ho => by
    obtain ⟨c, d, S1, S2, rfl, rfl, h1, h2⟩ := ho
    have hl := own_len h1
    rw [h] at hl
    match c, hl with
    | [u0], _ =>
      obtain ⟨u, T, R, hu, ht, hp, hw⟩ := f.lens h2
      refine ⟨u, T, S1 ++ R, by simpa using hu, ht, ?_, fun {w' T' u' y} hA hR h => ?_⟩
      · exact (List.Perm.append_left S1 hp).trans (by
          rw [← List.append_assoc, ← List.append_assoc]
          exact List.Perm.append_right R List.perm_append_comm)
      · obtain ⟨S', h3, h4⟩ := hw hA (fun b hb => hR b (List.mem_append_right _ hb)) h
        refine ⟨S1 ++ S', ⟨[u0], d.set j u', S1, S', rfl, rfl, own_keep hA (fun b hb => hR b (List.mem_append_left _ hb)) h1, h3⟩, ?_⟩
        exact (List.Perm.append_left S1 h4).trans (by
          rw [← List.append_assoc, ← List.append_assoc]
          exact List.Perm.append_right R List.perm_append_comm)

def none_ : Nat → Prop := fun _ => False
/-- The row v holds xs but for the cell jf of element i, where whatever 'set' takes may be put. -/
def Hole (W : CW) (c : Nat) (v : Value) (xs : List α) (i jf : Nat) (set : β → α) : Prop :=
  ∃ (es : List (List Value)) (Ss : List (List Nat)) (cs : List Value) (A R B : List Nat),
    W.w.ownsRow 0 (ty α) (sz α) v xs.length es.flatten ∧ es.length = xs.length ∧ Ss.length = xs.length ∧ i < xs.length ∧ es[i]? = some cs ∧ jf < sz α ∧ (∀ c ∈ es, c.length = sz α) ∧
    (∀ T', (Ss.set i T').flatten = A ++ (T' ++ B)) ∧ (v.ownBlock.toList ++ (A ++ (R ++ B))).Nodup ∧ (∀ b ∈ v.ownBlock.toList ++ (A ++ (R ++ B)), b < W.w.heap.size ∧ W.c b = c) ∧
    (∀ (k : Nat) cs x T, k ≠ i → es[k]? = some cs → xs[k]? = some x → Ss[k]? = some T → own W.w none_ T cs x) ∧
    (∀ (w' : World) T' u' y, (∀ b ∈ R, w'.heap[b]? = W.w.heap[b]?) → own w' none_ T' [u'] y → ∃ S', own w' none_ S' (cs.set jf u') (set y) ∧ S'.Perm (T' ++ R))
theorem Hole.ab {Ss : List (List Nat)} {i : Nat} {A B : List Nat} (h : ∀ T', (Ss.set i T').flatten = A ++ (T' ++ B)) {k : Nat} {T : List Nat} (hk : k ≠ i) (hT : Ss[k]? = some T) {b : Nat} (hb : b ∈ T) : b ∈ A ∨ b ∈ B := by
  have hfl : b ∈ (Ss.set i ([] : List Nat)).flatten := by
    refine List.mem_flatten.2 ⟨T, ?_, hb⟩
    have : (Ss.set i ([] : List Nat))[k]? = some T := by rw [List.getElem?_set_ne (Ne.symm hk)]; exact hT
    exact List.mem_of_getElem? this
  rw [h, List.nil_append] at hfl
  exact List.mem_append.1 hfl
theorem Hole.up {W W' : CW} {c : Nat} {v : Value} {xs : List α} {i jf : Nat} {set : β → α} {L : List Nat} (h : Hole W c v xs i jf set) (l : Le L W W') (hd : disj [c] L = true) : Hole W' c v xs i jf set := by
  obtain ⟨es, Ss, cs, A, R, B, h1, h2, h3, h4, h5, h6, h7, h8, h9, h10, h11, h12⟩ := h
  have hq : ∀ b ∈ v.ownBlock.toList ++ (A ++ (R ++ B)), W'.w.heap[b]? = W.w.heap[b]? ∧ W'.c b = W.c b := fun b hb => l.keep b (h10 b hb).1 (by rw [(h10 b hb).2]; exact disj_not hd (by simp))
  refine ⟨es, Ss, cs, A, R, B, ?_, h2, h3, h4, h5, h6, h7, h8, h9, fun b hb => ⟨Nat.lt_of_lt_of_le (h10 b hb).1 l.size, by rw [(hq b hb).2]; exact (h10 b hb).2⟩, fun k cs x T hk e1 e2 e3 => ?_, fun w' T' u' y hR ho => h12 w' T' u' y (fun b hb => by rw [hR b hb]; exact (hq b (by simp [hb])).1) ho⟩
  · refine ⟨h1.1, ?_⟩
    rcases h1.2 with hn | ⟨g, cap, cur, rfl, hb, hg, rest⟩
    · exact .inl hn
    · exact .inr ⟨g, cap, cur, rfl, hb, by rw [(hq g (by simp [Value.ownBlock])).1]; exact hg, rest⟩
  · refine own_keep (fun b hb => hb.elim) (fun b hb => ?_) (h11 k cs x T hk e1 e2 e3)
    rcases Hole.ab h8 hk e3 hb with hm | hm <;> exact (hq b (by simp [hm])).1
/-- An owned row, opened: the part that lay there gets the colour j. -/
theorem Ow.take {W : CW} {c j jf : Nat} {v uv : Value} {xs : List α} {x : α} {i : Int} {get : α → β} {set : α → β → α} [f : Fs α β jf get set] (h : Ow W c [] [v] xs) (hx : gi xs i = some x) (hcell : W.w.cell? (((slA v).add (i.toNat * sz α)).add jf) = some uv) (hj : Nat.beq j c = false) :
    ∃ W1, W1.w = W.w ∧ Le [c] W W1 ∧ Ow W1 j [] [uv] (get x) ∧ Hole W1 c v xs i.toNat jf (set x) := by
  obtain ⟨S, ⟨v0, es, Ss, e0, ho⟩, hnS, hbS⟩ := h
  simp only [List.cons.injEq, and_true] at e0
  subst e0
  obtain ⟨h0, hxi, hil⟩ := gi_some hx
  have l1 : i.toNat < es.length := by rw [ho.elen]; exact hil
  have l2 : i.toNat < Ss.length := by rw [ho.slen]; exact hil
  have hel := ho.at_ i.toNat _ x _ (List.getElem?_eq_getElem l1) hxi (List.getElem?_eq_getElem l2)
  have hel' : own W.w none_ Ss[i.toNat] es[i.toNat] x := own_mono (fun b hb => absurd hb.2 (by simp)) hel
  obtain ⟨u, T, R, hu, ht, hp, hw⟩ := f.lens hel'
  have huv : uv = u := by
    rcases ho.row.2 with ⟨rfl, hn⟩ | ⟨g, cap, cur, rfl, hb, hg, rest⟩
    · omega
    · have h1 := ho.row.cells (g := g) rfl _ u (flatten_at (sz α) es i.toNat _ ho.len (List.getElem?_eq_getElem l1) jf u hu)
      rw [add_add] at hcell
      rw [show (slA (.slice (some ⟨g, 0, none⟩) xs.length cap)) = ⟨g, 0, none⟩ from rfl] at hcell
      rw [h1] at hcell
      exact (Option.some.inj hcell).symm
  subst huv
  have hne : j ≠ c := fun e => by rw [e, Nat.beq_refl] at hj; cases hj
  obtain ⟨A, B, hf1, hf2⟩ := split_at Ss i.toNat _ (List.getElem?_eq_getElem l2)
  have hSp : S.Perm (T ++ (v.ownBlock.toList ++ (A ++ (R ++ B)))) := by
    rw [ho.S, hf1]
    exact perm_mid _ _ _ _ _ hp
  have hTQ := hSp.nodup_iff.1 hnS
  rw [List.nodup_append] at hTQ
  obtain ⟨hT, hQ, hTQ⟩ := hTQ
  have hTb : ∀ b ∈ T, b < W.w.heap.size ∧ W.c b = c := fun b hb => hbS b (hSp.mem_iff.2 (List.mem_append_left _ hb))
  let W1 : CW := ⟨W.w, fun b => if b ∈ T then j else W.c b⟩
  refine ⟨W1, rfl, ⟨rfl, rfl, rfl, Nat.le_refl _, fun b hb hc => ⟨rfl, if_neg fun hm => hc (by simp [(hTb b hm).2])⟩⟩, ⟨T, own_mono (fun b hb => hb.elim) ht, hT, fun b hb => ⟨(hTb b hb).1, if_pos hb⟩⟩,
    es, Ss, es[i.toNat], A, R, B, ho.row, ho.elen, ho.slen, hil, List.getElem?_eq_getElem l1, f.lt, ho.len, hf2, hQ, fun b hb => ?_, fun k cs x T hk e1 e2 e3 => own_mono (fun b hb => absurd hb.2 (by simp)) (ho.at_ k cs x T e1 e2 e3), fun w' T' u' y hR ho' => hw (fun b hb => hb.elim) hR ho'⟩
  have hb' := hbS b (hSp.mem_iff.2 (List.mem_append_right _ hb))
  exact ⟨hb'.1, by show (if b ∈ T then j else W.c b) = c; rw [if_neg fun hm => hTQ b hm b hb rfl]; exact hb'.2⟩
/-- An owned row, opened: what lay there is left. -/
theorem Ow.hole {W : CW} {c jf : Nat} {v : Value} {xs : List α} {x : α} {i : Int} {get : α → β} {set : α → β → α} [f : Fs α β jf get set] (h : Ow W c [] [v] xs) (hx : gi xs i = some x) : Hole W c v xs i.toNat jf (set x) := by
  obtain ⟨S, ⟨v0, es, Ss, e0, ho⟩, hnS, hbS⟩ := h
  simp only [List.cons.injEq, and_true] at e0
  subst e0
  obtain ⟨h0, hxi, hil⟩ := gi_some hx
  have l1 : i.toNat < es.length := by rw [ho.elen]; exact hil
  have l2 : i.toNat < Ss.length := by rw [ho.slen]; exact hil
  have hel := ho.at_ i.toNat _ x _ (List.getElem?_eq_getElem l1) hxi (List.getElem?_eq_getElem l2)
  have hel' : own W.w none_ Ss[i.toNat] es[i.toNat] x := own_mono (fun b hb => absurd hb.2 (by simp)) hel
  obtain ⟨u, T, R, hu, ht, hp, hw⟩ := f.lens hel'
  obtain ⟨A, B, hf1, hf2⟩ := split_at Ss i.toNat _ (List.getElem?_eq_getElem l2)
  have hSp : S.Perm (T ++ (v.ownBlock.toList ++ (A ++ (R ++ B)))) := by
    rw [ho.S, hf1]
    exact perm_mid _ _ _ _ _ hp
  have hTQ := hSp.nodup_iff.1 hnS
  rw [List.nodup_append] at hTQ
  exact ⟨es, Ss, es[i.toNat], A, R, B, ho.row, ho.elen, ho.slen, hil, List.getElem?_eq_getElem l1, f.lt, ho.len, hf2, hTQ.2.1, fun b hb => hbS b (hSp.mem_iff.2 (List.mem_append_right _ hb)), fun k cs x T hk e1 e2 e3 => own_mono (fun b hb => absurd hb.2 (by simp)) (ho.at_ k cs x T e1 e2 e3), fun w' T' u' y hR ho' => hw (fun b hb => hb.elim) hR ho'⟩
theorem set_at {γ : Type} : ∀ (c : List γ) (j : Nat) (u : γ), j < c.length → c.set j u = c.take j ++ u :: c.drop (j + 1)
  | [], j, u, h => by simp at h
  | a :: c, 0, u, h => by simp
  | a :: c, j + 1, u, h => by simp [set_at c j u (by simpa using h)]
theorem flatten_set1 {γ : Type} (s : Nat) (es : List (List γ)) (i jf : Nat) (cs : List γ) (u : γ) (hl : ∀ c ∈ es, c.length = s) (hi : es[i]? = some cs) (hj : jf < s) :
    (es.set i (cs.set jf u)).flatten = es.flatten.set (i * s + jf) u := by
  have hlt : i < es.length := (List.getElem?_eq_some_iff.1 hi).1
  have hcs : cs.length = s := hl cs (List.mem_of_getElem? hi)
  have hlen : (es.flatten).length = es.length * s := by
    have : ∀ (l : List (List γ)), (∀ c ∈ l, c.length = s) → l.flatten.length = l.length * s := by
      intro l
      induction l with
      | nil => intro _; simp
      | cons a l ih => intro h; simp only [List.flatten_cons, List.length_append, List.length_cons, ih (fun c hc => h c (by simp [hc])), h a (by simp), Nat.add_mul, Nat.one_mul]; omega
    exact this es hl
  have hb : i * s + s ≤ es.length * s := by rw [← Nat.succ_mul]; exact Nat.mul_le_mul_right _ hlt
  have h1 := flatten_set s (cs.set jf u) es i hl hlt (by simp [hcs])
  have h2 := flatten_set s cs es i hl hlt hcs
  have h3 : es.set i cs = es := by
    apply List.ext_getElem?
    intro k
    by_cases e : i = k
    · subst e; rw [List.getElem?_set_self hlt, hi]
    · rw [List.getElem?_set_ne e]
  rw [h3] at h2
  rw [h1]
  conv => rhs; rw [h2]
  have hi0 : i * s ≤ es.flatten.length := by rw [hlen]; omega
  have htl : (es.flatten.take (i * s)).length = i * s := by rw [List.length_take]; exact Nat.min_eq_left hi0
  rw [List.append_assoc, List.append_assoc, List.set_append, if_neg (by rw [htl]; omega), htl, List.set_append, if_pos (by omega), show i * s + jf - i * s = jf by omega]
/-- A store into the open cell closes the row. -/
theorem T.stH {P : Program} {ρ : Env} {W : CW} {c jf t : Nat} {v u : Value} {xs ys : List α} {i : Int} {set : β → α} {y : β} {J : List Nat} {p q : Operand} {b s ty' : Nat} {z : Value} [hI : Inf P t s b z]
    (h : Hole W c v xs i.toNat jf set) (hr : OwS W J [] [u] y) (hm : siM xs i (set y) = some ys) (hp : ev ρ p = ptr (((slA v).add (i.toNat * sz α)).add jf)) (hq : ev ρ q = u)
    (hd : disj [c] J = true := by rfl) (hs : s = 1 := by rfl) :
    Tr P ρ W.w (.store t p q) ty' (fun _ w' => ∃ W', W'.w = w' ∧ Le (c :: J) W W' ∧ Ow W' c [] [v] ys) := Tr.of_unit fun o ho1 _ => by
  obtain ⟨es, Ss, cs, A, R, B, h1, h2, h3, h4, h5, h6, h7, h8, h9, h10, h11, h12⟩ := h
  unfold siM at hm
  split at hm
  case isFalse => cases hm
  rename_i hi
  simp only [Option.some.injEq] at hm
  subst hm
  have hone : u.oneCell' = true := hr.one u (by simp)
  obtain ⟨T0, to, tn, tb⟩ := hr
  have to' : own W.w none_ T0 [u] y := own_mono (fun b hb => absurd hb.2 (by simp)) to
  obtain ⟨jj, hjj, _, hjs, _⟩ := hI.get
  have hbound : i.toNat * sz α + sz α ≤ xs.length * sz α := by rw [← Nat.succ_mul]; exact Nat.mul_le_mul_right _ h4
  rcases h1.2 with ⟨_, hn⟩ | ⟨g, cap, cur, rfl, hb0, hg, hnc, hcm, hcs, htake⟩
  · omega
  have hcap : xs.length * sz α ≤ cap * sz α := Nat.mul_le_mul_right _ hnc
  have hlt : g < W.w.heap.size := (Array.getElem?_eq_some_iff.1 hg).1
  have hQn := h9
  simp only [Value.ownBlock, Option.toList_some, List.singleton_append, List.nodup_cons] at h9
  have hne : ∀ b ∈ A ++ (R ++ B), b ≠ g := fun b hb e => h9.1 (by rw [← e]; exact hb)
  have hgc : W.c g = c := (h10 g (by simp [Value.ownBlock])).2
  have hcJ : c ∉ J := disj_not hd (by simp)
  have hTg : ∀ b ∈ T0, b ≠ g := fun b hb e => hcJ (by have := (tb b hb).2; rw [e, hgc] at this; exact this)
  have hTQ : ∀ a ∈ T0, ∀ b ∈ (Value.slice (some ⟨g, 0, Option.none⟩) xs.length cap).ownBlock.toList ++ (A ++ (R ++ B)), a ≠ b := fun a ha b hb e => hcJ (by have := (tb a ha).2; rw [e, (h10 b hb).2] at this; exact this)
  have hrun := run_storeCells_at P g (i.toNat * sz α + jf) (ty α) [u] 0 cur W.w hg (by simp only [List.length_cons, List.length_nil]; omega) (fun w hw => by rw [List.mem_singleton] at hw; rw [hw]; exact hone)
  simp only [Nat.add_zero, List.length_cons, List.length_nil, Nat.zero_add] at hrun
  have hset : cur.toList.take (i.toNat * sz α + jf) ++ [u] ++ cur.toList.drop (i.toNat * sz α + jf + 1) = cur.toList.set (i.toNat * sz α + jf) u := by
    rw [set_at _ _ _ (by simp; omega)]
    simp
  rw [hset] at hrun
  let w3 : World := W.w.setRow g (cur.toList.set (i.toNat * sz α + jf) u).toArray
  have hoth : ∀ b, b ≠ g → w3.heap[b]? = W.w.heap[b]? := fun b hb => setRow_other W.w g b _ hb
  have hrow : w3.ownsRow 0 (ty α) (sz α) (.slice (some ⟨g, 0, Option.none⟩) xs.length cap) xs.length (es.set i.toNat (cs.set jf u)).flatten := by
    rw [flatten_set1 (sz α) es i.toNat jf cs u h7 h5 h6]
    refine ⟨by rw [List.length_set]; exact h1.1, .inr ⟨g, cap, _, rfl, Nat.zero_le _, setRow_heap W.w g cur _ _ _ hg, hnc, hcm, by simpa using hcs, ?_⟩⟩
    show (cur.toList.set (i.toNat * sz α + jf) u).take (xs.length * sz α) = _
    rw [List.take_set, htake]
  obtain ⟨S', hs1, hs2⟩ := h12 w3 T0 u y (fun b hb => hoth b (hne b (by simp [hb]))) (own_keep (fun b hb => hb.elim) (fun b hb => hoth b (hTg b hb)) to')
  let W' : CW := ⟨w3, fun b => if b ∈ T0 then c else W.c b⟩
  have hperm : ((Value.slice (some ⟨g, 0, Option.none⟩) xs.length cap).ownBlock.toList ++ (Ss.set i.toNat S').flatten).Perm (T0 ++ ((Value.slice (some ⟨g, 0, Option.none⟩) xs.length cap).ownBlock.toList ++ (A ++ (R ++ B)))) := by
    rw [h8]
    exact perm_mid _ _ _ _ _ hs2
  have hii : i.toNat < Ss.length := by omega
  refine ⟨w3, ?_, W', rfl, ⟨rfl, rfl, rfl, by simp [W', w3, World.setRow], fun b hb hc => ?_⟩, (Value.slice (some ⟨g, 0, Option.none⟩) xs.length cap).ownBlock.toList ++ (Ss.set i.toNat S').flatten, ⟨_, es.set i.toNat (cs.set jf u), Ss.set i.toNat S', rfl, ?_, rfl, by simp [h2], by simp [h3], fun k cs' x T e1 e2 e3 => ?_⟩, ?_, fun b hb => ?_⟩
  · have hcz : u.cells = #[u] := cells_one hone
    have hadd : ((slA (.slice (some ⟨g, 0, Option.none⟩) xs.length cap)).add (i.toNat * sz α)).add jf = ⟨g, i.toNat * sz α + jf, Option.none⟩ := by
      rw [add_add, slA, Addr.add_lit, Nat.zero_add]
    simp only [execOp, ho1, hp, hq, Instr.storeAt, Instr.sureAddr, Sem.run_bind, Sem.run_pure, Result.andThen_ok, storeVar, sizeOf, typeInfo, run_program, hjj, hjs, hs, hcz, Sem.run_ite, hadd]
    rw [if_neg (by simp), hrun]
    rfl
  · simp only [List.mem_cons, not_or] at hc
    exact ⟨hoth b (fun e => hc.1 (by rw [e]; exact hgc)), if_neg fun hm => hc.2 (tb b hm).2⟩
  · rw [List.length_set]; exact hrow
  · by_cases e : i.toNat = k
    · subst e
      rw [List.getElem?_set_self (by omega)] at e1 e2 e3
      cases e1; cases e2; cases e3
      exact own_mono (fun b hb => hb.elim) hs1
    · rw [List.getElem?_set_ne e] at e1 e2 e3
      refine own_mono (A := none_) (fun b hb => hb.elim) (own_keep (fun b hb => hb.elim) (fun b hb => ?_) (h11 k cs' x T (Ne.symm e) e1 e2 e3))
      rcases Hole.ab h8 (Ne.symm e) e3 hb with hm | hm <;> exact hoth b (hne b (by simp [hm]))
  · rw [hperm.nodup_iff, List.nodup_append]
    exact ⟨tn, hQn, hTQ⟩
  · rcases List.mem_append.1 (hperm.mem_iff.1 hb) with hm | hm
    · exact ⟨by simp [W', w3, World.setRow]; exact (tb b hm).1, if_pos hm⟩
    · refine ⟨by simp [W', w3, World.setRow]; exact (h10 b hm).1, ?_⟩
      show (if b ∈ T0 then c else W.c b) = c
      rw [if_neg fun h => hTQ b h b hm rfl]
      exact (h10 b hm).2
end
end Go.Sx
