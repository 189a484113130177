/- Regions that draw their order: one walk, quiet operations first, serves every order. Conditions: none; each rule's own premises. -/
import Derived.Test.YtmjjhnahdmlmaaaDoorXSd
import Derived.Orders
namespace Go.Sx
open Go
set_option linter.unusedSimpArgs false
set_option linter.unusedVariables false

section
variable {P : Program} {ops : Array Oper} {Q : Exit → Act → World → Prop} {C : World → Prop}

def YieldsC (P : Program) (ops : Array Oper) (C : World → Prop) (o : Oper) (v : Value) (a : Act) : Prop :=
  (Region.wanted o (yielded ops a.tmps) = true ∧ ∀ w, C w → (execOp a.eval o).run P w = .ok (.value v) w) ∨
  (Region.wanted o (yielded ops a.tmps) = false ∧ v = undef)
theorem YieldsC.wpOp {i : Nat} {o : Oper} {v : Value} {a : Act} (hi : ops[i]? = some o) (hy : YieldsC P ops C o v a)
    {K : Act → World → Prop} {w : World} (hC : C w) (h : K (a.put o.dst v) w) : wpOp P ops Q i K a w := by
  unfold Go.wpOp
  simp only [hi]
  rcases hy with ⟨hw, hv⟩ | ⟨hw, rfl⟩
  · simp only [hw, if_true, Oper.wp, hv w hC, Oper.upon]; exact .inl h
  · simp only [hw, Bool.false_eq_true, if_false]; exact h
theorem YieldsC.of_same {o : Oper} {v : Value} {a a' : Act} (hy : YieldsC P ops C o v a) (he : execOp a'.eval o = execOp a.eval o)
    (hw : Region.wanted o (yielded ops a'.tmps) = Region.wanted o (yielded ops a.tmps)) : YieldsC P ops C o v a' := by
  unfold YieldsC at *
  rw [he, hw]
  exact hy
theorem wpOp_putC {j : Nat} {oi oj : Oper} {v : Value} (hj : ops[j]? = some oj) (hap : oi.apart ops oj = true)
    (hsi : ∀ cs b, oi.op ≠ .select cs b) (hsj : ∀ cs b, oj.op ≠ .select cs b)
    (hQ : ∀ c a w, Q (.panic c) (a.put oi.dst v) w → Q (.panic c) a w) {K : Act → World → Prop} {a : Act} {w : World}
    (hy : YieldsC P ops C oi v a) (h : wpOp P ops Q j K (a.put oi.dst v) w) :
    wpOp P ops Q j (fun a' w' => YieldsC P ops C oi v a' ∧ K (a'.put oi.dst v) w') a w := by
  obtain ⟨h1, h2, h3⟩ := Oper.apart_spec hap
  have keep : ∀ (a : Act), YieldsC P ops C oi v a → ∀ u, YieldsC P ops C oi v (a.put oj.dst u) := fun a hy u =>
    hy.of_same (execOp_put oi hsi a oj.dst u h3) (wanted_put oi a oj.dst u h3)
  have keepD : ∀ d, YieldsC P ops C oi v { a with defers := d :: a.defers } := fun d => hy.of_same rfl rfl
  unfold wpOp at *
  simp only [hj] at *
  rw [wanted_put oj a oi.dst v h1] at h
  split
  · rename_i hw
    simp only [hw, if_true] at h
    rcases h with h | ⟨hasks, hlets⟩
    case inr => exact .inr ⟨by unfold Oper.asks at *; rw [execOp_put oj hsj a oi.dst v h1] at hasks; exact hasks, hlets⟩
    refine .inl ?_
    unfold Oper.wp at *
    rw [execOp_put oj hsj a oi.dst v h1] at h
    generalize (execOp a.eval oj).run P w = r at *
    cases r with
    | ok n w' =>
      cases n <;> simp only [Oper.upon] at h ⊢
      case value u => exact ⟨keep a hy u, by rw [← Act.put_comm a v u h2]; exact h⟩
      case skip => exact ⟨keep a hy _, by rw [← Act.put_comm a v undef h2]; exact h⟩
      case defer d =>
        refine ⟨keep _ (keepD d) _, ?_⟩
        rw [← Act.put_comm _ v undef h2, ← Act.put_defers]
        exact h
      case enter f args =>
        refine Calls.mono h fun e w'' he => ?_
        cases e with
        | returned u => exact ⟨keep a hy u, by rw [← Act.put_comm a v u h2]; exact he⟩
        | panicked c => exact hQ _ _ _ he
        | outgrown => exact he
      case row row args => exact Rows.mono h fun u w'' he => ⟨keep a hy u, by rw [← Act.put_comm a v u h2]; exact he⟩
    | halt x w' =>
      cases x <;> simp only [Oper.upon] at h ⊢
      case panic u => exact hQ _ _ _ h
  · rename_i hw
    simp only [hw] at h
    exact ⟨keep a hy _, by rw [← Act.put_comm a v undef h2]; exact h⟩

def noLate (late : List Nat) (listed : Array Bool) : Prop := ∀ j ∈ late, listed.getD j true = false
/-- Whatever order is picked; C holds till one of the operations 'late' has come up. -/
def wpAnyC (P : Program) (ops : Array Oper) (C : World → Prop) (late : List Nat) (Q : Exit → Act → World → Prop) : Nat → Array Bool → Act → World → Prop
  | 0, listed, a, w => Region.ready .any ops listed = [] ∧ Q .normal a w
  | fuel + 1, listed, a, w =>
    (Region.ready .any ops listed = [] → Q .normal a w) ∧
    ∀ i ∈ Region.ready .any ops listed, wpOp P ops Q i (fun a' w' => (noLate late (listed.setIfInBounds i true) → C w') ∧ wpAnyC P ops C late Q fuel (listed.setIfInBounds i true) a' w') a w
theorem wpAny_of_C {late : List Nat} : ∀ (fuel : Nat) (listed : Array Bool) (a : Act) (w : World), wpAnyC P ops C late Q fuel listed a w → wpAny P .any ops Q fuel listed a w
  | 0, _, _, _, h => h
  | fuel + 1, _, _, _, h => ⟨h.1, fun i hi => wpOp_mono (fun a' w' hk => wpAny_of_C fuel _ a' w' hk.2) (h.2 i hi)⟩
/-- What a quiet operation is told of the world: nothing, or C. -/
def Cls (C : World → Prop) (read : Bool) (w : World) : Prop := read = true → C w
theorem wpAnyC_first {late : List Nat} {read : Bool} {i : Nat} {oi : Oper} {v : Value} (hi : ops[i]? = some oi) (hil : i ∉ late) (hsel : ∀ (j : Nat) (o : Oper) cs b, ops[j]? = some o → o.op ≠ .select cs b)
    (hQ : ∀ c a w, Q (.panic c) (a.put oi.dst v) w → Q (.panic c) a w)
    (hlt : read = true → ∀ j ∈ late, ∃ oj, ops[j]? = some oj ∧ ∃ e ∈ oj.after, Region.binds .any e = true ∧ e.on = i) :
    ∀ (fuel : Nat) (listed : Array Bool) (a : Act) (w : World),
      (∀ j oj, ops[j]? = some oj → j ≠ i → listed.getD j true = false → (∀ e ∈ oj.after, Region.binds .any e = true → e.on ≠ i) → oi.apart ops oj = true) →
      i ∈ Region.ready .any ops listed → YieldsC P ops (Cls C read) oi v a → (read = true → noLate late listed) → (noLate late listed → C w) →
      wpAnyC P ops C late Q fuel (listed.setIfInBounds i true) (a.put oi.dst v) w → wpAnyC P ops C late Q (fuel + 1) listed a w := by
  intro fuel
  have hnl : ∀ {listed : Array Bool}, noLate late listed → noLate late (listed.setIfInBounds i true) := fun h j hj => by
    rw [getD_set_ne true (fun e => hil (by rw [e]; exact hj))]; exact h j hj
  have hnl' : ∀ {listed : Array Bool}, noLate late (listed.setIfInBounds i true) → noLate late listed := fun h j hj => by
    have := h j hj
    rwa [getD_set_ne true (fun e => hil (by rw [e]; exact hj))] at this
  induction fuel with
  | zero =>
    intro listed a w _ hr hy hrd hC H
    refine ⟨fun h => (by rw [h] at hr; cases hr), fun j hj => ?_⟩
    by_cases hji : j = i
    · subst hji; exact hy.wpOp hi (fun hr => hC (hrd hr)) ⟨fun h => hC (hnl' h), H⟩
    · have := ready_mono hj hji
      rw [H.1] at this
      cases this
  | succ fuel ih =>
    intro listed a w hfree hr hy hrd hC H
    refine ⟨fun h => (by rw [h] at hr; cases hr), fun j hj => ?_⟩
    by_cases hji : j = i
    · subst hji; exact hy.wpOp hi (fun hr => hC (hrd hr)) ⟨fun h => hC (hnl' h), H⟩
    · have h1 := H.2 j (ready_mono hj hji)
      obtain ⟨hjun, oj, hoj, hall⟩ := mem_ready.1 hj
      have hun0 := (mem_ready.1 hr).1
      have hnot : ∀ e ∈ oj.after, Region.binds .any e = true → e.on ≠ i := fun e he hb heq => by
        have h1 := hall e he hb
        have h0 := (mem_ready.1 hr).1
        rw [heq] at h1
        rcases Nat.lt_or_ge i listed.size with h' | h'
        · simp [h'] at h0 h1; rw [h0] at h1; cases h1
        · simp [Array.getElem?_eq_none h'] at h1
      have hjl : read = true → j ∉ late := fun hrt hjl => by
        obtain ⟨oj', hoj', e, he, hb, hon⟩ := hlt hrt j hjl
        rw [hoj] at hoj'
        cases hoj'
        exact hnot e he hb hon
      have h2 := wpOp_putC hoj (hfree j oj hoj hji hjun hnot) (fun cs b => hsel i oi cs b hi) (fun cs b => hsel j oj cs b hoj) hQ hy h1
      have hfree' : ∀ k ok, ops[k]? = some ok → k ≠ i → (listed.setIfInBounds j true).getD k true = false →
          (∀ e ∈ ok.after, Region.binds .any e = true → e.on ≠ i) → oi.apart ops ok = true := fun k ok hk hki hun hno => by
        refine hfree k ok hk hki ?_ hno
        by_cases hjk : j = k
        · subst hjk; exact hjun
        · rw [getD_set_ne true hjk] at hun; exact hun
      refine wpOp_mono (fun a' w' h3 => ?_) h2
      obtain ⟨hy', hC', hH'⟩ := h3
      rw [Array.setIfInBounds_comm _ _ (Ne.symm hji)] at hC' hH'
      have hC2 : noLate late (listed.setIfInBounds j true) → C w' := fun h => hC' (hnl h)
      refine ⟨hC2, ih (listed.setIfInBounds j true) a' w' hfree' (ready_mono hr (Ne.symm hji)) hy' (fun hrt k hk => ?_) hC2 hH'⟩
      rw [getD_set_ne true (fun e => hjl hrt (by rw [e]; exact hk))]
      exact hrd hrt k hk

/-! ### A walk in an order of one's own: (operation, kind); kind 0: touches no memory; 1: reads; 2: acts, C holds behind it; 3: acts, late -/
def mw (P : Program) (ops : Array Oper) (C : World → Prop) : List (Nat × Nat) → (Act → World → Prop) → Act → World → Prop
  | [], Q, a, w => Q a w
  | (i, k) :: π, Q, a, w => ∃ o, ops[i]? = some o ∧
    if Region.wanted o (yielded ops a.tmps) = true then
      (match k with
      | 0 => ∃ v, (∀ w, (execOp a.eval o).run P w = .ok (.value v) w) ∧ mw P ops C π Q (a.put o.dst v) w
      | 1 => ∃ v, (∀ w, C w → (execOp a.eval o).run P w = .ok (.value v) w) ∧ mw P ops C π Q (a.put o.dst v) w
      | 2 => o.wp P a w (fun a' w' => C w' ∧ mw P ops C π Q a' w') (fun _ _ _ => False)
      | _ => o.wp P a w (fun a' w' => mw P ops C π Q a' w') (fun _ _ _ => False))
    else mw P ops C π Q (a.put o.dst undef) w
def lateOf (π : List (Nat × Nat)) : List Nat := (π.filter fun p => p.2 == 3).map (·.1)
def waits (ops : Array Oper) (j i : Nat) : Bool := match ops[j]? with
  | some o => o.after.any fun e => Region.binds .any e && e.on == i
  | none => false
def orderB (ops : Array Oper) (late : List Nat) : List (Nat × Nat) → Array Bool → Bool
  | [], listed => (Region.ready .any ops listed).isEmpty
  | (i, k) :: π, listed =>
    (match k with
    | 0 => (Region.ready .any ops listed).contains i && Region.free .any ops listed i && !late.contains i
    | 1 => (Region.ready .any ops listed).contains i && Region.free .any ops listed i && !late.contains i && late.all (fun j => waits ops j i && !listed.getD j true)
    | 2 => Region.ready .any ops listed == [i] && !late.contains i
    | _ => Region.ready .any ops listed == [i] && late.contains i && decide (i < listed.size)) && orderB ops late π (listed.setIfInBounds i true)
theorem Oper.wp_post {o : Oper} {a : Act} {w : World} {K : Act → World → Prop} {Q' : Exit → Act → World → Prop} (h : o.wp P a w K (fun _ _ _ => False)) : o.wp P a w K Q' := by
  unfold Oper.wp at *
  generalize (execOp a.eval o).run P w = r at *
  cases r with
  | ok n w' =>
    cases n <;> simp only [Oper.upon] at h ⊢
    case value u => exact h
    case skip => exact h
    case defer d => exact h
    case enter f args => exact Calls.mono h (fun e w'' he => by cases e <;> first | exact he | (exact he.elim) | (obtain ⟨_, _, hf⟩ := he; exact hf.elim))
    case row row args => exact h
  | halt x w' => cases x <;> simp only [Oper.upon] at h
theorem wpAnyC_of_mw {late : List Nat} {Q' : Act → World → Prop} (hs : Region.noSelect ops = true) (hQ : ∀ a w, Q' a w → Q .normal a w) (hQp : ∀ c a a' w, Q (.panic c) a w → Q (.panic c) a' w) :
    ∀ (π : List (Nat × Nat)) (listed : Array Bool) (a : Act) (w : World), orderB ops late π listed = true → (noLate late listed → C w) → mw P ops C π Q' a w → wpAnyC P ops C late Q π.length listed a w
  | [], listed, a, w, hB, _, h => ⟨by simpa [orderB] using hB, hQ _ _ h⟩
  | (i, k) :: π, listed, a, w, hB, hC, h => by
    simp only [orderB, Bool.and_eq_true] at hB
    obtain ⟨hB1, hB2⟩ := hB
    obtain ⟨o, ho, h⟩ := h
    have one : ∀ (hr : Region.ready .any ops listed = [i]), (wpOp P ops Q i (fun a' w' => (noLate late (listed.setIfInBounds i true) → C w') ∧ wpAnyC P ops C late Q π.length (listed.setIfInBounds i true) a' w') a w) → wpAnyC P ops C late Q (π.length + 1) listed a w :=
      fun hr hh => by
        unfold wpAnyC
        constructor
        · intro h0
          rw [hr] at h0
          cases h0
        intro j hj
        rw [hr, List.mem_singleton] at hj
        rw [hj]
        exact hh
    have nls : i ∉ late → noLate late (listed.setIfInBounds i true) → noLate late listed := fun hil h j hj => by
      have := h j hj
      rwa [getD_set_ne true (fun e => hil (by rw [e]; exact hj))] at this
    have hex : ∀ j, waits ops j i = true → ∃ oj, ops[j]? = some oj ∧ ∃ e ∈ oj.after, Region.binds .any e = true ∧ e.on = i := fun j hj => by
      unfold waits at hj
      cases hoj : ops[j]? with
      | none => rw [hoj] at hj; cases hj
      | some oj =>
        rw [hoj] at hj
        obtain ⟨e, he, hb⟩ := Array.any_eq_true'.1 hj
        simp only [Bool.and_eq_true, beq_iff_eq] at hb
        exact ⟨oj, rfl, e, he, hb⟩
    match k with
    | 0 =>
      simp only [Bool.and_eq_true, Bool.not_eq_true', List.contains_iff_mem] at hB1
      have hil : i ∉ late := by simpa using hB1.2
      by_cases hw : Region.wanted o (yielded ops a.tmps) = true
      · simp only [hw, if_true] at h
        obtain ⟨v, hv, hm⟩ := h
        exact wpAnyC_first (read := false) ho hil (Region.noSelect_spec hs) (fun c a w hh => hQp c _ _ w hh) (fun e => by cases e) _ listed a w (Region.free_spec ho hB1.1.2) hB1.1.1 (.inl ⟨hw, fun w _ => hv w⟩) (fun e => by cases e) hC
          (wpAnyC_of_mw hs hQ hQp π _ _ w hB2 (fun hn => hC (nls hil hn)) hm)
      · simp only [hw] at h
        exact wpAnyC_first (read := false) ho hil (Region.noSelect_spec hs) (fun c a w hh => hQp c _ _ w hh) (fun e => by cases e) _ listed a w (Region.free_spec ho hB1.1.2) hB1.1.1 (.inr ⟨by simpa using hw, rfl⟩) (fun e => by cases e) hC
          (wpAnyC_of_mw hs hQ hQp π _ _ w hB2 (fun hn => hC (nls hil hn)) h)
    | 1 =>
      simp only [Bool.and_eq_true, Bool.not_eq_true', List.contains_iff_mem, List.all_eq_true] at hB1
      have hil : i ∉ late := by simpa using hB1.1.2
      have hnl : noLate late listed := fun j hj => (hB1.2 j hj).2
      by_cases hw : Region.wanted o (yielded ops a.tmps) = true
      · simp only [hw, if_true] at h
        obtain ⟨v, hv, hm⟩ := h
        exact wpAnyC_first (read := true) ho hil (Region.noSelect_spec hs) (fun c a w hh => hQp c _ _ w hh) (fun _ j hj => hex j (hB1.2 j hj).1) _ listed a w (Region.free_spec ho hB1.1.1.2) hB1.1.1.1 (.inl ⟨hw, fun w hc => hv w (hc rfl)⟩) (fun _ => hnl) hC
          (wpAnyC_of_mw hs hQ hQp π _ _ w hB2 (fun hn => hC (nls hil hn)) hm)
      · simp only [hw] at h
        exact wpAnyC_first (read := true) ho hil (Region.noSelect_spec hs) (fun c a w hh => hQp c _ _ w hh) (fun _ j hj => hex j (hB1.2 j hj).1) _ listed a w (Region.free_spec ho hB1.1.1.2) hB1.1.1.1 (.inr ⟨by simpa using hw, rfl⟩) (fun _ => hnl) hC
          (wpAnyC_of_mw hs hQ hQp π _ _ w hB2 (fun hn => hC (nls hil hn)) h)
    | 2 =>
      simp only [Bool.and_eq_true, Bool.not_eq_true', beq_iff_eq] at hB1
      have hil : i ∉ late := by simpa using hB1.2
      refine one hB1.1 ?_
      unfold wpOp
      simp only [ho]
      split
      · rename_i hw
        simp only [hw, if_true] at h
        exact .inl (Oper.wp_post (Oper.wp_mono (fun a' w' hh => ⟨fun _ => hh.1, wpAnyC_of_mw hs hQ hQp π _ _ w' hB2 (fun _ => hh.1) hh.2⟩) h))
      · rename_i hw
        simp only [hw] at h
        exact ⟨fun hn => hC (nls hil hn), wpAnyC_of_mw hs hQ hQp π _ _ w hB2 (fun hn => hC (nls hil hn)) h⟩
    | k + 3 =>
      simp only [Bool.and_eq_true, beq_iff_eq, decide_eq_true_eq, List.contains_iff_mem] at hB1
      have hnn : ¬ noLate late (listed.setIfInBounds i true) := fun hn => by
        have := hn i hB1.1.2
        simp [hB1.2] at this
      refine one hB1.1.1 ?_
      unfold wpOp
      simp only [ho]
      split
      · rename_i hw
        simp only [hw, if_true] at h
        exact .inl (Oper.wp_post (Oper.wp_mono (fun a' w' hh => ⟨fun hn => absurd hn hnn, wpAnyC_of_mw hs hQ hQp π _ _ w' hB2 (fun hn => absurd hn hnn) hh⟩) h))
      · rename_i hw
        simp only [hw] at h
        exact ⟨fun hn => absurd hn hnn, wpAnyC_of_mw hs hQ hQp π _ _ w hB2 (fun hn => absurd hn hnn) h⟩
end

/-! ### The same over environments -/
def Mw (P : Program) (n : Nat) (ops : Array Oper) (C : World → Prop) (π : List (Nat × Nat)) (Q : Env → World → Prop) (ρ : Env) (w : World) : Prop :=
  ∀ a, Fits n a ρ → mw P ops C π (fun a w => ∃ ρ, Fits n a ρ ∧ Q ρ w) a w
/-- The worlds that W leads to, but for blocks of the colours L. -/
def Cl (W : CW) (L : List Nat) (w : World) : Prop := ∃ W', W'.w = w ∧ Le L W W'
section
variable {P : Program} {n : Nat} {Q : Env → World → Prop} {ρ : Env} {w : World} {ops : Array Oper} {C : World → Prop} {R : Post} {i k d ty : Nat} {op : Op} {pos : String} {af : Array Edge} {π : List (Nat × Nat)} {v : Value} {T : Value → World → Prop} {W : CW}
theorem Cw.draw {id : Nat} {l : List Oper} (L : List Nat) (π : List (Nat × Nat)) (hm : P.follows .mixedOrders = true) (hB : (Region.noSelect l.toArray && orderB l.toArray (lateOf π) π (Array.replicate l.length false) && Nat.beq π.length l.length) = true)
    (h : ∀ W', Le [] W W' → Mw P n l.toArray (Cl W' L) π (fun ρ w => R .normal ρ w) ρ W'.w) : Cw P n (.region id l.toArray true) R ρ W.w := fun a ha => by
  simp only [Bool.and_eq_true] at hB
  obtain ⟨⟨hs, hB⟩, hl⟩ := hB
  have hl' := Nat.eq_of_beq_eq_true hl
  let W' : CW := ⟨{ W.w with drawn := W.w.drawn + 1 }, W.c⟩
  have hle : Le [] W W' := ⟨rfl, rfl, rfl, Nat.le_refl _, fun _ _ _ => ⟨rfl, rfl⟩⟩
  have key := wpAnyC_of_mw (P := P) (ops := l.toArray) (C := Cl W' L) (late := lateOf π) hs (Q' := fun a w => ∃ ρ, Fits n a ρ ∧ R .normal ρ w) (Q := fun e a w => e = .normal ∧ lift n R e a w) (fun a w h => ⟨rfl, h⟩) (fun c a a' w h => by cases h.1) π (Array.replicate l.length false) a W'.w hB (fun _ => ⟨W', rfl, Le.refl _ _⟩) (h W' hle a ha)
  refine wp_mono (wp_region_any hm (Q := fun e a w => e = .normal ∧ lift n R e a w) ?_) (fun e a w hh => hh.2)
  have k2 := wpAny_of_C _ _ _ _ key
  rw [hl'] at k2
  exact k2
theorem cl_cell {K L : List Nat} {p : Addr} (ha : AK W K p.block) (hd : disj K L = true) (hc : W.w.cell? p = some v) {w' : World} (h : Cl W L w') : w'.cell? p = some v := by
  obtain ⟨W', rfl, l⟩ := h
  rw [World.cell?_of_block (w := W.w) (AK.up l hd ha).1]
  exact hc
theorem Mw.nil (h : Q ρ w) : Mw P n ops C [] Q ρ w := fun _ ha => ⟨ρ, ha, h⟩
theorem Mw.p (hi : ops[i]? = some ⟨some d, op, ty, pos, af, none⟩) (hd : Nat.blt d n = true) (hr : ∀ w, Run P ρ w op ty v) (h : Mw P n ops C π Q (ρ.up d v) w) : Mw P n ops C ((i, 0) :: π) Q ρ w := fun a ha =>
  ⟨_, hi, by
    refine (if_pos (show Region.wanted _ _ = true from rfl)).mpr ?_
    exact ⟨v, fun w => by rw [ha.evalF]; exact hr w _ rfl rfl, h _ (ha.put hd v)⟩⟩
theorem Mw.q (hi : ops[i]? = some ⟨some d, op, ty, pos, af, none⟩) (hd : Nat.blt d n = true) (hr : ∀ w, C w → Run P ρ w op ty v) (h : Mw P n ops C π Q (ρ.up d v) w) : Mw P n ops C ((i, 1) :: π) Q ρ w := fun a ha =>
  ⟨_, hi, by
    refine (if_pos (show Region.wanted _ _ = true from rfl)).mpr ?_
    exact ⟨v, fun w hC => by rw [ha.evalF]; exact hr w hC _ rfl rfl, h _ (ha.put hd v)⟩⟩
theorem Mw.t (hi : ops[i]? = some ⟨some d, op, ty, pos, af, none⟩) (hd : Nat.blt d n = true) (hr : Tr P ρ w op ty T) (h : ∀ v w', T v w' → C w' ∧ Mw P n ops C π Q (ρ.up d v) w') : Mw P n ops C ((i, 2) :: π) Q ρ w := fun a ha =>
  ⟨_, hi, by
    refine (if_pos (show Region.wanted _ _ = true from rfl)).mpr ?_
    exact hr _ rfl rfl a _ _ ha.evalF fun v w' hT => ⟨(h v w' hT).1, (h v w' hT).2 _ (ha.put hd v)⟩⟩
theorem Mw.tu (hi : ops[i]? = some ⟨none, op, ty, pos, af, none⟩) (hr : Tr P ρ w op ty T) (h : ∀ v w', T v w' → C w' ∧ Mw P n ops C π Q ρ w') : Mw P n ops C ((i, 2) :: π) Q ρ w := fun a ha =>
  ⟨_, hi, by
    refine (if_pos (show Region.wanted _ _ = true from rfl)).mpr ?_
    exact hr _ rfl rfl a _ _ ha.evalF fun v w' hT => ⟨(h v w' hT).1, (h v w' hT).2 _ ha⟩⟩
theorem Mw.l (hi : ops[i]? = some ⟨some d, op, ty, pos, af, none⟩) (hd : Nat.blt d n = true) (hr : Tr P ρ w op ty T) (h : ∀ v w', T v w' → Mw P n ops C π Q (ρ.up d v) w') : Mw P n ops C ((i, 3) :: π) Q ρ w := fun a ha =>
  ⟨_, hi, by
    refine (if_pos (show Region.wanted _ _ = true from rfl)).mpr ?_
    exact hr _ rfl rfl a _ _ ha.evalF fun v w' hT => h v w' hT _ (ha.put hd v)⟩
theorem Mw.lu (hi : ops[i]? = some ⟨none, op, ty, pos, af, none⟩) (hr : Tr P ρ w op ty T) (h : ∀ v w', T v w' → Mw P n ops C π Q ρ w') : Mw P n ops C ((i, 3) :: π) Q ρ w := fun a ha =>
  ⟨_, hi, by
    refine (if_pos (show Region.wanted _ _ = true from rfl)).mpr ?_
    exact hr _ rfl rfl a _ _ ha.evalF fun v w' hT => h v w' hT _ ha⟩
end
end Go.Sx
