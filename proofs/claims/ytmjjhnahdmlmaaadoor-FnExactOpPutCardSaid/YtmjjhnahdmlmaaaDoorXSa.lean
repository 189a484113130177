/- The wp of code over environments: what each slot holds is a function from slots to values. Conditions: none; each rule's own premises. -/
import Derived.WalkKit
import Derived.KernelRfl
import Derived.Deep.LoopGhost
namespace Go.Sx
open Go
set_option linter.unusedSimpArgs false
set_option linter.unusedVariables false

abbrev Env := Nat → Value
def Env.up (ρ : Env) (d : Nat) (v : Value) : Env := fun i => bif Nat.beq i d then v else ρ i
def envL : List Value → Env
  | [] => fun _ => undef
  | v :: l => fun i => match i with
    | 0 => v
    | j + 1 => envL l j
def ev (ρ : Env) : Operand → Value
  | .tmp t => ρ t
  | .const v => v
  | .global g => .pointer (some ⟨g, 0, none⟩)
  | .func f => .func (.func f) #[] #[]

structure Fits (n : Nat) (a : Act) (ρ : Env) : Prop where
  size : a.tmps.size = n
  df : a.defers = []
  val : ∀ i, a.tmps.getD i undef = ρ i

theorem Fits.eval {n : Nat} {a : Act} {ρ : Env} (h : Fits n a ρ) (x : Operand) : a.eval x = ev ρ x := by
  cases x with
  | tmp t => exact h.val t
  | _ => rfl
theorem Fits.evalF {n : Nat} {a : Act} {ρ : Env} (h : Fits n a ρ) : a.eval = ev ρ := funext h.eval

theorem Fits.put {n : Nat} {a : Act} {ρ : Env} (h : Fits n a ρ) {d : Nat} (hd : Nat.blt d n = true) (v : Value) : Fits n (a.put (some d) v) (ρ.up d v) := by
  have hlt : d < a.tmps.size := by rw [h.size]; simpa [Nat.blt_eq] using hd
  refine ⟨by simp [Act.put, h.size], h.df, fun i => ?_⟩
  have hv := h.val i
  simp only [Act.put, Env.up, Array.getD_eq_getD_getElem?] at hv ⊢
  by_cases e : i = d
  · subst e
    simp [hlt]
  · have : Nat.beq i d = false := by cases hb : Nat.beq i d with
      | false => rfl
      | true => exact absurd (Nat.eq_of_beq_eq_true hb) e
    rw [this, Array.getElem?_setIfInBounds_ne (Ne.symm e)]
    simpa using hv

theorem Fits.putN {n : Nat} {a : Act} {ρ : Env} (h : Fits n a ρ) (v : Value) : Fits n (a.put none v) ρ := h

abbrev Post := Exit → Env → World → Prop
def lift (n : Nat) (Q : Post) : Exit → Act → World → Prop := fun e a w => ∃ ρ, Fits n a ρ ∧ Q e ρ w
def Cw (P : Program) (n : Nat) (c : Code) (Q : Post) (ρ : Env) (w : World) : Prop := ∀ a, Fits n a ρ → c.wp P (lift n Q) a w
def Post.seq (K : Env → World → Prop) (Q : Post) : Post
  | .normal, ρ, w => K ρ w
  | e, ρ, w => Q e ρ w
def Post.blk (id : Nat) (Q : Post) : Post
  | .exit i, ρ, w => bif Nat.beq i id then Q .normal ρ w else Q (.exit i) ρ w
  | e, ρ, w => Q e ρ w

section
variable {P : Program} {n : Nat} {Q : Post} {ρ : Env} {w : World}

theorem Cw.seq {x y : Code} (h : Cw P n x (Post.seq (Cw P n y Q) Q) ρ w) : Cw P n (.seq x y) Q ρ w := fun a ha =>
  wp_seq (Code.wp_mono (fun e a' w' ⟨ρ', hf, hq⟩ => by
    cases e with
    | normal => exact hq a' hf
    | _ => exact ⟨ρ', hf, hq⟩) (h a ha))
theorem Cw.skip (h : Q .normal ρ w) : Cw P n .skip Q ρ w := fun _ ha => wp_skip ⟨ρ, ha, h⟩
theorem Cw.ret (h : Q .ret ρ w) : Cw P n .ret Q ρ w := fun _ ha => wp_ret ⟨ρ, ha, h⟩
theorem Cw.exit {id : Nat} (h : Q (.exit id) ρ w) : Cw P n (.exit id) Q ρ w := fun _ ha => wp_exit ⟨ρ, ha, h⟩
theorem Cw.condT {c : Operand} {x y : Code} (hc : ev ρ c = .bool true) (h : Cw P n x Q ρ w) : Cw P n (.cond c x y) Q ρ w :=
  fun a ha => wp_cond_true (by rw [ha.eval, hc]) (h a ha)
theorem Cw.condF {c : Operand} {x y : Code} (hc : ev ρ c = .bool false) (h : Cw P n y Q ρ w) : Cw P n (.cond c x y) Q ρ w :=
  fun a ha => wp_cond_false (by rw [ha.eval, hc]) (h a ha)
theorem Cw.cond {c : Operand} {x y : Code} {b : Bool} (hc : ev ρ c = .bool b) (ht : b = true → Cw P n x Q ρ w) (hf : b = false → Cw P n y Q ρ w) : Cw P n (.cond c x y) Q ρ w := by
  cases b with
  | true => exact .condT hc (ht rfl)
  | false => exact .condF hc (hf rfl)
theorem Cw.block {id : Nat} {c : Code} (h : Cw P n c (Post.blk id Q) ρ w) : Cw P n (.block id c) Q ρ w := fun a ha =>
  wp_block (Code.wp_mono (fun e a' w' ⟨ρ', hf, hq⟩ => by
    cases e with
    | exit i =>
      simp only [Exit.inBlock]
      by_cases hi : i = id
      · rw [if_pos hi]
        subst hi
        refine ⟨ρ', hf, ?_⟩
        have : Nat.beq i i = true := Nat.beq_refl i
        simpa [Post.blk, this] using hq
      · rw [if_neg hi]
        refine ⟨ρ', hf, ?_⟩
        have : Nat.beq i id = false := by cases hb : Nat.beq i id with
          | false => rfl
          | true => exact absurd (Nat.eq_of_beq_eq_true hb) hi
        simpa [Post.blk, this] using hq
    | _ => exact ⟨ρ', hf, hq⟩) (h a ha))
theorem Cw.mono {c : Code} {Q' : Post} (h : Cw P n c Q ρ w) (hq : ∀ e ρ w, Q e ρ w → Q' e ρ w) : Cw P n c Q' ρ w := fun a ha =>
  Code.wp_mono (fun e _ w' ⟨ρ', hf, hq'⟩ => ⟨ρ', hf, hq e ρ' w' hq'⟩) (h a ha)

/-- The environment at a loop's head or behind a join: the slots of 'vs' hold 'l', the slots from lo to hi anything, all others what they held. -/
def ovl (lo hi : Nat) : List Nat → List Value → Env → Env → Env
  | s :: vs, v :: l, σ, ρ => (ovl lo hi vs l σ ρ).up s v
  | _, _, σ, ρ => fun i => bif Nat.ble lo i && Nat.ble i hi then σ i else ρ i
def inR (lo hi : Nat) (vs : List Nat) (d : Nat) : Bool := (Nat.ble lo d && Nat.ble d hi) || vs.any (Nat.beq d)
/-- Outside lo..hi and vs the environments agree. -/
def Agree (lo hi : Nat) (vs : List Nat) (ρ ρ' : Env) : Prop := ∀ i, inR lo hi vs i = false → ρ i = ρ' i
theorem Agree.refl {lo hi : Nat} {vs : List Nat} (ρ : Env) : Agree lo hi vs ρ ρ := fun _ _ => rfl
theorem Agree.up {lo hi : Nat} {vs : List Nat} {ρ ρ' : Env} {d : Nat} {v : Value} (hd : inR lo hi vs d = true) (h : Agree lo hi vs ρ ρ') : Agree lo hi vs (ρ.up d v) ρ' := fun i hi' => by
  have : Nat.beq i d = false := by cases hb : Nat.beq i d with
    | false => rfl
    | true => rw [Nat.eq_of_beq_eq_true hb, hd] at hi'; cases hi'
  simp only [Env.up, this, cond_false]
  exact h i hi'
theorem Agree.base {lo hi : Nat} {vs : List Nat} {l : List Value} {σ ρ : Env} : Agree lo hi vs (ovl lo hi [] l σ ρ) ρ := fun i hi' => by
  have : (Nat.ble lo i && Nat.ble i hi) = false := by
    cases hb : (Nat.ble lo i && Nat.ble i hi) with
    | false => rfl
    | true => simp [inR, hb] at hi'
  simp only [Sx.ovl, this, cond_false]
theorem Agree.trans {lo hi : Nat} {vs : List Nat} {a b c : Env} (h : Agree lo hi vs a b) (k : Agree lo hi vs b c) : Agree lo hi vs a c := fun i hi' => (h i hi').trans (k i hi')
theorem Agree.wide {lo hi0 lo' hi' : Nat} {vs vs' : List Nat} {a b : Env} (h : Agree lo' hi' vs' a b) (hlo : Nat.ble lo lo' = true) (hhi : Nat.ble hi' hi0 = true) (hv : vs'.all (inR lo hi0 vs) = true) : Agree lo hi0 vs a b := fun i hi => by
  refine h i ?_
  cases hb : inR lo' hi' vs' i with
  | false => rfl
  | true =>
    exfalso
    unfold inR at hb
    rw [Bool.or_eq_true] at hb
    rcases hb with hb | hb
    · simp only [Bool.and_eq_true, Nat.ble_eq] at hb hlo hhi
      unfold inR at hi
      have : (Nat.ble lo i && Nat.ble i hi0) = true := by simp only [Bool.and_eq_true, Nat.ble_eq]; exact ⟨Nat.le_trans hlo hb.1, Nat.le_trans hb.2 hhi⟩
      rw [this, Bool.true_or] at hi
      cases hi
    · rw [List.any_eq_true] at hb
      obtain ⟨x, hx, hbx⟩ := hb
      rw [List.all_eq_true] at hv
      rw [Nat.eq_of_beq_eq_true hbx, hv x hx] at hi
      cases hi
theorem Agree.ovl {lo hi : Nat} {vs : List Nat} {ρ ρ' : Env} (h : Agree lo hi vs ρ ρ') : ρ = ovl lo hi vs (vs.map ρ) ρ ρ' := by
  have key : ∀ (us : List Nat) (i : Nat), (us.any (Nat.beq i) = true ∨ (inR lo hi us i = false → ρ i = ρ' i)) → ρ i = Sx.ovl lo hi us (us.map ρ) ρ ρ' i := by
    intro us
    induction us with
    | nil =>
      intro i hh
      simp only [Sx.ovl]
      cases hb : (Nat.ble lo i && Nat.ble i hi) with
      | true => rfl
      | false =>
        rcases hh with hh | hh
        · simp at hh
        · exact hh (by simp [inR, hb])
    | cons u us ih =>
      intro i hh
      simp only [List.map_cons, Sx.ovl, Env.up]
      cases hb : Nat.beq i u with
      | true => rw [Nat.eq_of_beq_eq_true hb]; rfl
      | false =>
        refine ih i ?_
        rcases hh with hh | hh
        · left; simpa [hb] using hh
        · by_cases ha : us.any (Nat.beq i) = true
          · exact .inl ha
          · right
            intro hr
            refine hh ?_
            unfold inR at hr ⊢
            simp only [List.any_cons, hb, Bool.false_or]
            exact hr
  funext i
  exact key vs i (by
    by_cases ha : vs.any (Nat.beq i) = true
    · exact .inl ha
    · exact .inr (h i))

/-- A loop. I m l w: with m rounds' measure left, the slots 'vs' hold l, in world w. -/
theorem Cw.loop {c : Code} (lo hi : Nat) (vs : List Nat) (I : Nat → List Value → World → Prop) (m : Nat) (h0 : I m (vs.map ρ) w)
    (hs : ∀ m l w σ, I m l w → Cw P n c (Post.seq (fun ρ' w' => Agree lo hi vs ρ' ρ ∧ ∃ m', m' < m ∧ I m' (vs.map ρ') w') Q) (ovl lo hi vs l σ ρ) w) :
    Cw P n (.loop c) Q ρ w := by
  intro a ha
  refine wp_loop_ghost (fun m a w => ∃ ρ1, Fits n a ρ1 ∧ Agree lo hi vs ρ1 ρ ∧ I m (vs.map ρ1) w) m ⟨ρ, ha, Agree.refl ρ, h0⟩ ?_
  rintro m a w ⟨ρ1, hf, hag, hI⟩
  have h1 := hs m (vs.map ρ1) w ρ1 hI
  rw [← hag.ovl] at h1
  refine Code.wp_mono ?_ (h1 a hf)
  rintro e a' w' ⟨ρ', hf', hq⟩
  cases e with
  | normal => obtain ⟨hag', m', hm', hI'⟩ := hq; exact ⟨m', hm', ρ', hf', hag', hI'⟩
  | _ => exact ⟨ρ', hf', hq⟩
/-- A join: what follows is proved once, over any values of the slots that the ways before it write. -/
theorem Cw.join {x y : Code} (lo hi : Nat) (vs : List Nat) (J : List Value → World → Prop)
    (hk : ∀ l w σ, J l w → Cw P n y Q (ovl lo hi vs l σ ρ) w)
    (hx : Cw P n x (Post.seq (fun ρ' w' => Agree lo hi vs ρ' ρ ∧ J (vs.map ρ') w') Q) ρ w) : Cw P n (.seq x y) Q ρ w := by
  refine Cw.seq (hx.mono fun e ρ' w' hq => ?_)
  cases e with
  | normal =>
    obtain ⟨hag, hJ⟩ := hq
    have := hk (vs.map ρ') w' ρ' hJ
    rw [← hag.ovl] at this
    exact this
  | _ => exact hq
end

/-! ### The operations of a region, in the text's order -/
def PostN (Q : Env → World → Prop) : Post
  | .normal, ρ, w => Q ρ w
  | _, _, _ => False
def Lw (P : Program) (n : Nat) (ops : Array Oper) (l : List Oper) (Q : Env → World → Prop) (ρ : Env) (w : World) : Prop :=
  ∀ a, Fits n a ρ → wpList P ops (lift n (PostN Q)) l a w
section
variable {P : Program} {n : Nat} {Q : Env → World → Prop} {ρ : Env} {w : World} {ops : Array Oper} {rest : List Oper} {R : Post}
theorem Cw.region {id : Nat} {l : List Oper} (h : Lw P n l.toArray l (fun ρ w => R .normal ρ w) ρ w) : Cw P n (.region id l.toArray false) R ρ w := fun a ha =>
  Code.wp_mono (fun e a' w' ⟨ρ', hf, hq⟩ => by
    cases e with
    | normal => exact ⟨ρ', hf, hq⟩
    | _ => exact hq.elim) (wp_region_lit (h a ha))
theorem Lw.nil (h : Q ρ w) : Lw P n ops [] Q ρ w := fun _ ha => wpList_nil ⟨ρ, ha, h⟩
/-- An operation that yields a value. -/
theorem Lw.value {o : Oper} {d : Nat} (hg : o.guard = none) (hd' : o.dst = some d) (hd : Nat.blt d n = true) {v : Value} {w' : World}
    (hr : (execOp (ev ρ) o).run P w = .ok (.value v) w') (h : Lw P n ops rest Q (ρ.up d v) w') : Lw P n ops (o :: rest) Q ρ w := fun a ha =>
  wpList_plain hg fun K hK => by
    unfold Oper.wp
    rw [ha.evalF, hr]
    exact hK _ _ (by rw [hd']; exact h _ (ha.put hd v))
/-- An operation that yields none (a store). -/
theorem Lw.unit {o : Oper} (hg : o.guard = none) (hd' : o.dst = none) {w' : World}
    (hr : (execOp (ev ρ) o).run P w = .ok .skip w') (h : Lw P n ops rest Q ρ w') : Lw P n ops (o :: rest) Q ρ w := fun a ha =>
  wpList_plain hg fun K hK => by
    unfold Oper.wp
    rw [ha.evalF, hr]
    exact hK _ _ (by rw [hd']; exact h _ ha)
/-- A call. -/
theorem Lw.enter {o : Oper} {d : Nat} (hg : o.guard = none) (hd' : o.dst = some d) (hd : Nat.blt d n = true) {f : FuncId} {args : Array Value} {R : Ending → World → Prop}
    (hr : (execOp (ev ρ) o).run P w = .ok (.enter f args) w) (hc : Calls P f args w R)
    (h : ∀ e w', R e w' → ∃ v, e = .returned v ∧ Lw P n ops rest Q (ρ.up d v) w') : Lw P n ops (o :: rest) Q ρ w := fun a ha =>
  wpList_plain hg fun K hK => by
    unfold Oper.wp
    rw [ha.evalF, hr]
    refine Calls.mono hc fun e w' he => ?_
    obtain ⟨v, rfl, hv⟩ := h e w' he
    exact hK _ _ (by rw [hd']; exact hv _ (ha.put hd v))
/-- A guarded operation that is not wanted. -/
theorem Lw.pass {o : Oper} {d j t : Nat} {b c : Bool} (hg : o.guard = some (j, b)) (hd' : o.dst = some d) (hd : Nat.blt d n = true)
    (hj : (ops[j]?).bind (·.dst) = some t) (ht : Nat.blt t n = true) (hv : ev ρ (.tmp t) = .bool c) (hne : (c == b) = false) (h : Lw P n ops rest Q (ρ.up d undef) w) : Lw P n ops (o :: rest) Q ρ w := fun a ha => by
  have hval : a.tmps[t]? = some (.bool c) := by
    have := ha.val t
    have hlt : t < a.tmps.size := by rw [ha.size]; simpa [Nat.blt_eq] using ht
    simp only [ev] at hv
    rw [hv, Array.getD_eq_getD_getElem?, Array.getElem?_eq_getElem hlt] at this
    rw [Array.getElem?_eq_getElem hlt]
    simpa using this
  have hw : Region.wanted o (yielded ops a.tmps) = false := by
    simp only [Region.wanted, hg, yielded, hj, Option.bind_some, hval]
    simpa using hne
  simp only [wpList, hw]
  rw [hd']
  exact h _ (ha.put hd undef)
/-- A guarded operation that is wanted: as without its guard. -/
theorem Lw.want {o : Oper} {j t : Nat} {b : Bool} (hg : o.guard = some (j, b)) (hj : (ops[j]?).bind (·.dst) = some t) (ht : Nat.blt t n = true) (hv : ev ρ (.tmp t) = .bool b)
    (h : Lw P n ops ({ o with guard := none } :: rest) Q ρ w) : Lw P n ops (o :: rest) Q ρ w := fun a ha => by
  have hval : a.tmps[t]? = some (.bool b) := by
    have := ha.val t
    have hlt : t < a.tmps.size := by rw [ha.size]; simpa [Nat.blt_eq] using ht
    simp only [ev] at hv
    rw [hv, Array.getD_eq_getD_getElem?, Array.getElem?_eq_getElem hlt] at this
    rw [Array.getElem?_eq_getElem hlt]
    simpa using this
  have hw : Region.wanted o (yielded ops a.tmps) = true := by
    simp only [Region.wanted, hg, yielded, hj, Option.bind_some, hval]
    simp
  have h1 := h a ha
  have hw1 : Region.wanted { o with guard := none } (yielded ops a.tmps) = true := rfl
  simp only [wpList, hw1, if_true] at h1
  simp only [wpList, hw, if_true]
  exact h1
end
end Go.Sx
