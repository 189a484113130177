/- Joins of models, guarded operations, recolouring, and small side facts. Conditions: none; each rule's own premises. -/
import Derived.Test.YtmjjhnahdmlmaaaDoorXSh
namespace Go.Sx
open Go Go.RowKit Rp
set_option linter.unusedSimpArgs false
set_option linter.unusedVariables false

theorem bsplit {p : Prop} (b : Bool) (ht : b = true → p) (hf : b = false → p) : p := by cases b with
  | true => exact ht rfl
  | false => exact hf rfl
theorem nz {α : Type} {n : Int} {x u : α} (h : (if n = 0 then none else some x) = some u) : n ≠ 0 := fun e => by rw [if_pos e] at h; cases h
theorem fk_one {f : Nat → Nat} {c k : Nat} (h : f c = k) : ∀ d ∈ [c], f d = k := fun d hd => by rw [List.mem_singleton] at hd; rw [hd, h]
theorem notT {b : Bool} (h : b = true) : (!b) = false := by rw [h]; rfl
theorem notF {b : Bool} (h : b = false) : (!b) = true := by rw [h]; rfl
theorem cells_list {v : Value} (h : v.oneCell' = true) : v.cells.toList = [v] := by rw [cells_one h]
theorem bsv {v : Value} (h : v.oneCell' = true) : ∀ u ∈ [v], u.cells.size = 1 := fun u hu => by
  rw [List.mem_singleton] at hu; rw [hu, cells_one h]; rfl
theorem bsA {v : Value} {n : Nat} (h : v.cells.size = n) : ∀ u ∈ [v], u.cells.size = n := fun u hu => by
  rw [List.mem_singleton] at hu; rw [hu, h]
theorem bsc {v : Value} (h : v.oneCell' = true) : ([v].map (·.cells.toList)).flatten = [v] := by simp [cells_one h]

section
variable {α : Type} [Rp α] {W : CW} {k : Nat} {K : List Nat} {cs : List Value} {x : α}
theorem Ow.dyeO (h : Ow W k K cs x) (k' : Nat) (hd : disj K [k] = true := by rfl) : ∃ W', W'.w = W.w ∧ Le [k] W W' ∧ Ow W' k' K cs x := ⟨W.dye k k', rfl, Le.dye k k', h.dye k' hd⟩
theorem Ow.dyeS (h : Ow W k K cs x) (hd : disj K [k] = true := by rfl) (hs : subL (0 :: K) [0] = true := by rfl) : ∃ W', W'.w = W.w ∧ Le [k] W W' ∧ Rd W' [0] cs x := ⟨W.dye k 0, rfl, Le.dye k 0, (h.share hd).sub hs⟩
/-- What owns nothing and leads nowhere. -/
class Pl (α : Type) [Rp α] : Prop where
  pl : ∀ {w A A' cs} {x : α}, rd w A cs x → rd w A' cs x
instance {α β : Type} [Rp α] [Rp β] [Pl α] [Pl β] : Pl (α × β) := ⟨fun ⟨c, d, e, h, k⟩ => ⟨c, d, e, Pl.pl h, Pl.pl k⟩⟩
end
section
variable {P : Program} {n : Nat} {Q : Env → World → Prop} {ρ : Env} {w : World} {ops : Array Oper} {rest : List Oper} {C : World → Prop} {R : Post} {i k d ty j t : Nat} {op : Op} {pos : String} {af : Array Edge} {π : List (Nat × Nat)} {v : Value} {T : Value → World → Prop} {W : CW} {b c : Bool} {dd : Option Nat}
theorem R.pk {c x y : Operand} {q b : Bool} (hq : q = b) (hc : ev ρ c = .bool q) (hv : ev ρ (bif b then x else y) = v) : Run P ρ w (.pick c x y) ty v :=
  R.pick hc (fun h => by rw [h] at hq; subst hq; exact hv) (fun h => by rw [h] at hq; subst hq; exact hv)
theorem Cw.condb {c : Operand} {x y : Code} {q b : Bool} (hq : q = b) (hc : ev ρ c = .bool q) (h : Cw P n (bif b then x else y) R ρ w) : Cw P n (.cond c x y) R ρ w :=
  .cond hc (fun e => by rw [e] at hq; subst hq; exact h) (fun e => by rw [e] at hq; subst hq; exact h)
theorem Lw.pass' {o : Oper} {q : Bool} (hq : q = c) (hg : o.guard = some (j, b)) (hd' : o.dst = some d) (hd : Nat.blt d n = true)
    (hj : (ops[j]?).bind (·.dst) = some t) (ht : Nat.blt t n = true) (hv : ev ρ (.tmp t) = .bool q) (hne : (c == b) = false) (h : Lw P n ops rest Q (ρ.up d undef) w) : Lw P n ops (o :: rest) Q ρ w :=
  Lw.pass hg hd' hd hj ht (hq ▸ hv) hne h
theorem Lw.want' {o : Oper} {q : Bool} (hq : q = b) (hg : o.guard = some (j, b)) (hj : (ops[j]?).bind (·.dst) = some t) (ht : Nat.blt t n = true) (hv : ev ρ (.tmp t) = .bool q)
    (h : Lw P n ops ({ o with guard := none } :: rest) Q ρ w) : Lw P n ops (o :: rest) Q ρ w := Lw.want hg hj ht (hq ▸ hv) h
theorem wanted_of {o : Oper} (hg : o.guard = some (j, b)) (hj : (ops[j]?).bind (·.dst) = some t) (ht : Nat.blt t n = true) (hv : ev ρ (.tmp t) = .bool c) {a : Act} (ha : Fits n a ρ) : Region.wanted o (yielded ops a.tmps) = (c == b) := by
  have hval : a.tmps[t]? = some (.bool c) := by
    have := ha.val t
    have hlt : t < a.tmps.size := by rw [ha.size]; simpa [Nat.blt_eq] using ht
    simp only [ev] at hv
    rw [hv, Array.getD_eq_getD_getElem?, Array.getElem?_eq_getElem hlt] at this
    rw [Array.getElem?_eq_getElem hlt]
    simpa using this
  simp only [Region.wanted, hg, yielded, hj, Option.bind_some, hval]
  cases c <;> cases b <;> rfl
theorem wanted_u {o : Oper} (hg : o.guard = some (j, b)) (hj : (ops[j]?).bind (·.dst) = some t) (ht : Nat.blt t n = true) (hv : ev ρ (.tmp t) = undef) {a : Act} (ha : Fits n a ρ) : Region.wanted o (yielded ops a.tmps) = false := by
  have hval : a.tmps[t]? = some undef := by
    have := ha.val t
    have hlt : t < a.tmps.size := by rw [ha.size]; simpa [Nat.blt_eq] using ht
    simp only [ev] at hv
    rw [hv, Array.getD_eq_getD_getElem?, Array.getElem?_eq_getElem hlt] at this
    rw [Array.getElem?_eq_getElem hlt]
    simpa using this
  simp only [Region.wanted, hg, yielded, hj, Option.bind_some, hval]
  cases b <;> rfl
theorem Lw.passU {o : Oper} (hg : o.guard = some (j, b)) (hd' : o.dst = some d) (hd : Nat.blt d n = true)
    (hj : (ops[j]?).bind (·.dst) = some t) (ht : Nat.blt t n = true) (hv : ev ρ (.tmp t) = undef) (h : Lw P n ops rest Q (ρ.up d undef) w) : Lw P n ops (o :: rest) Q ρ w := fun a ha => by
  have hw := wanted_u (o := o) hg hj ht hv ha
  simp only [wpList, hw]
  rw [hd']
  exact h _ (ha.put hd undef)
theorem Mw.passU (hi : ops[i]? = some ⟨some d, op, ty, pos, af, some (j, b)⟩) (hd : Nat.blt d n = true)
    (hj : (ops[j]?).bind (·.dst) = some t) (ht : Nat.blt t n = true) (hv : ev ρ (.tmp t) = undef) (h : Mw P n ops C π Q (ρ.up d undef) w) : Mw P n ops C ((i, k) :: π) Q ρ w := fun a ha =>
  ⟨_, hi, by
    have hw := wanted_u (o := ⟨some d, op, ty, pos, af, some (j, b)⟩) rfl hj ht hv ha
    rw [if_neg (by rw [hw]; decide)]
    exact h _ (ha.put hd undef)⟩
theorem Mw.pass' {q : Bool} (hq : q = c) (hi : ops[i]? = some ⟨some d, op, ty, pos, af, some (j, b)⟩) (hd : Nat.blt d n = true)
    (hj : (ops[j]?).bind (·.dst) = some t) (ht : Nat.blt t n = true) (hv : ev ρ (.tmp t) = .bool q) (hne : (c == b) = false) (h : Mw P n ops C π Q (ρ.up d undef) w) : Mw P n ops C ((i, k) :: π) Q ρ w := fun a ha =>
  ⟨_, hi, by
    have hw := wanted_of (o := ⟨some d, op, ty, pos, af, some (j, b)⟩) rfl hj ht hv ha
    rw [hq, hne] at hw
    rw [if_neg (by rw [hw]; decide)]
    exact h _ (ha.put hd undef)⟩
theorem Mw.gp {q : Bool} (hq : q = b) (hj : (ops[j]?).bind (·.dst) = some t) (ht : Nat.blt t n = true) (hv : ev ρ (.tmp t) = .bool q) (hi : ops[i]? = some ⟨some d, op, ty, pos, af, some (j, b)⟩) (hd : Nat.blt d n = true) (hr : ∀ w, Run P ρ w op ty v) (h : Mw P n ops C π Q (ρ.up d v) w) : Mw P n ops C ((i, 0) :: π) Q ρ w := fun a ha =>
  ⟨_, hi, by
    have hw := wanted_of (o := ⟨some d, op, ty, pos, af, some (j, b)⟩) rfl hj ht hv ha
    rw [hq] at hw
    rw [if_pos (by rw [hw]; simp)]
    exact ⟨v, fun w => by rw [ha.evalF]; exact hr w _ rfl rfl, h _ (ha.put hd v)⟩⟩
theorem Mw.gq {q : Bool} (hq : q = b) (hj : (ops[j]?).bind (·.dst) = some t) (ht : Nat.blt t n = true) (hv : ev ρ (.tmp t) = .bool q) (hi : ops[i]? = some ⟨some d, op, ty, pos, af, some (j, b)⟩) (hd : Nat.blt d n = true) (hr : ∀ w, C w → Run P ρ w op ty v) (h : Mw P n ops C π Q (ρ.up d v) w) : Mw P n ops C ((i, 1) :: π) Q ρ w := fun a ha =>
  ⟨_, hi, by
    have hw := wanted_of (o := ⟨some d, op, ty, pos, af, some (j, b)⟩) rfl hj ht hv ha
    rw [hq] at hw
    rw [if_pos (by rw [hw]; simp)]
    exact ⟨v, fun w hC => by rw [ha.evalF]; exact hr w hC _ rfl rfl, h _ (ha.put hd v)⟩⟩
theorem Mw.gt {q : Bool} (hq : q = b) (hj : (ops[j]?).bind (·.dst) = some t) (ht : Nat.blt t n = true) (hv : ev ρ (.tmp t) = .bool q) (hi : ops[i]? = some ⟨some d, op, ty, pos, af, some (j, b)⟩) (hd : Nat.blt d n = true) (hr : Tr P ρ w op ty T) (h : ∀ v w', T v w' → C w' ∧ Mw P n ops C π Q (ρ.up d v) w') : Mw P n ops C ((i, 2) :: π) Q ρ w := fun a ha =>
  ⟨_, hi, by
    have hw := wanted_of (o := ⟨some d, op, ty, pos, af, some (j, b)⟩) rfl hj ht hv ha
    rw [hq] at hw
    rw [if_pos (by rw [hw]; simp)]
    exact hr _ rfl rfl a _ _ ha.evalF fun v w' hT => ⟨(h v w' hT).1, (h v w' hT).2 _ (ha.put hd v)⟩⟩
theorem Mw.gl {q : Bool} (hq : q = b) (hj : (ops[j]?).bind (·.dst) = some t) (ht : Nat.blt t n = true) (hv : ev ρ (.tmp t) = .bool q) (hi : ops[i]? = some ⟨some d, op, ty, pos, af, some (j, b)⟩) (hd : Nat.blt d n = true) (hr : Tr P ρ w op ty T) (h : ∀ v w', T v w' → Mw P n ops C π Q (ρ.up d v) w') : Mw P n ops C ((i, 3) :: π) Q ρ w := fun a ha =>
  ⟨_, hi, by
    have hw := wanted_of (o := ⟨some d, op, ty, pos, af, some (j, b)⟩) rfl hj ht hv ha
    rw [hq] at hw
    rw [if_pos (by rw [hw]; simp)]
    exact hr _ rfl rfl a _ _ ha.evalF fun v w' hT => h v w' hT _ (ha.put hd v)⟩
end
section
variable {P : Program} {α : Type} [Rp α] {ρ : Env} {W : CW} {k : Nat} {K K' : List Nat} {v u : Value} {xs ys zs : List α} {p q : Operand} {t e s b : Nat} {z : Value} {ty' : Nat} {cs : List Value} {x : α} {g j : Nat}
/-- append(s, x...) of what leads nowhere: from any place. -/
theorem T.appP [Und P t (.slice e)] [Inf P e s b z] [Atm α] [Pl α] (h : Ow W k K [v] xs) (hr : Rd W K' [u] ys) (hp : ev ρ p = v) (hq : ev ρ q = u) (hm : apM xs ys = some zs)
    (hK : disj K [k] = true := by rfl) (he : e = ty α := by rfl) (hs : s = sz α := by rfl) (hz : z.cells.size = s := by rfl) (hs0 : Nat.blt 0 s = true := by rfl) (hb : Nat.ble b 32768 = true := by rfl) :
    Tr P ρ W.w (.call ⟨.builtin .append, #[p, q], #[t, t]⟩) ty' (fun v' w' => ∃ W', W'.w = w' ∧ Le [k] W W' ∧ Ow W' k K [v'] zs) := by
  unfold apM at hm
  split at hm
  case isFalse => cases hm
  rename_i hl
  simp only [Option.some.injEq] at hm
  subst hm
  obtain ⟨ad, c, ecs, rfl, hE, hfl, hca, hone⟩ := hr.each
  obtain ⟨S, ⟨v0, es, Ss, e0, ho⟩, hnS, hbS⟩ := h
  simp only [List.cons.injEq, and_true] at e0
  subst e0
  obtain ⟨v', w', hrun, hrow, hg, hloc⟩ := append_run (P := P) (ty' := ty') (α := α) (t := t) he hs hz hs0 hb (c := c) ho.row hfl hca hone hl
  refine T.builtin2 (by simp [hp, hq]) ⟨v', w', hrun, ?_⟩
  refine grow_own (Ts := List.replicate ys.length []) [] ho hnS hbS hE.len (by simp) (fun i cs x T h1 h2 h3 => ?_) (by simp) (fun b hb => by simp at hb) (by simp) hK hrow hg hloc
  have : T = [] := by
    have := List.mem_of_getElem? h3
    simpa using (List.mem_replicate.1 this).2
  subst this
  exact Atm.own (Pl.pl (hE.at_ i cs x h1 h2))
end
end Go.Sx
