/- Operations that read, make or write memory; calls and what they hand back. Conditions: none; each rule's own premises. -/
import Derived.Test.YtmjjhnahdmlmaaaDoorXSc
namespace Go.Sx
open Go Go.RowKit Rp
set_option linter.unusedSimpArgs false
set_option linter.unusedVariables false

/-! ### Reading -/
section read
variable {α β : Type} [Rp α] [Rp β] {W : CW} {K : List Nat} {v : Value} {xs : List α} {i : Int} {x : α} {p : Addr} {cs : List Value}
theorem Rd.slice_form (h : Rd W K [v] xs) : ∃ ad cap, v = .slice ad xs.length cap ∧ xs.length ≤ cap ∧ cap ≤ maxLen := by
  obtain ⟨ad, cap, e, h1, h2, _⟩ := h
  exact ⟨ad, cap, by simpa using e, h1, h2⟩
theorem Rd.at_ (h : Rd W K [v] xs) (hx : gi xs i = some x) : At W K ((slA v).add (i.toNat * sz α)) x := by
  obtain ⟨h0, hi, hl⟩ := gi_some hx
  obtain ⟨ad, cap, e, _, _, ha, hx⟩ := h
  have e' : v = .slice ad xs.length cap := by simpa using e
  subst e'
  obtain ⟨a, rfl, hb⟩ := ha (by omega)
  obtain ⟨ecs, h1, h2⟩ := hx _ x hi
  exact ⟨by rw [add_block]; exact hb, ecs, h1, h2⟩
theorem At.cell (h : At W K p x) (hs : sz α = 1) : ∃ v, W.w.cell? p = some v ∧ Rd W K [v] x := by
  obtain ⟨_, cs, hc, hr⟩ := h
  have hl := rd_len hr
  rw [hs] at hl
  match cs, hl with
  | [v], _ =>
    have := hc 0 v rfl
    rw [show p.add 0 = p by simp [Addr.add]] at this
    exact ⟨v, this, hr⟩
theorem At.cells (h : At W K p x) : ∃ cs, CellsAt W.w p cs ∧ cs.length = sz α ∧ Rd W K cs x := by
  obtain ⟨_, cs, hc, hr⟩ := h
  exact ⟨cs, hc, rd_len hr, hr⟩
theorem At.fst {y : β} (h : At W K p (x, y)) : At W K p x := by
  obtain ⟨ha, cs, hc, c, d, rfl, h1, _⟩ := h
  exact ⟨ha, c, hc.left, h1⟩
theorem At.snd {y : β} (h : At W K p (x, y)) : At W K (p.add (sz α)) y := by
  obtain ⟨ha, cs, hc, c, d, rfl, h1, h2⟩ := h
  have h1' : c.length = sz α := rd_len h1
  exact ⟨by rw [add_block]; exact ha, d, by rw [← h1']; exact hc.right, h2⟩
theorem At.add_ {m k : Nat} (h : At W K ((p.add m).add k) x) : At W K (p.add (m + k)) x := by rw [add_add] at h; exact h
theorem Rd.split {y : β} (h : Rd W K cs (x, y)) : ∃ c d, cs = c ++ d ∧ Rd W K c x ∧ Rd W K d y := h
theorem Rd.join {c d : List Value} {y : β} (h : Rd W K c x) (k : Rd W K d y) : Rd W K (c ++ d) (x, y) := ⟨c, d, rfl, h, k⟩
theorem Rd.one (h : Rd W K cs x) (hs : sz α = 1) : ∃ v, cs = [v] ∧ v.oneCell' = true := by
  have hl := rd_len h
  rw [hs] at hl
  match cs, hl with
  | [v], _ => exact ⟨v, rfl, rd_one h v (by simp)⟩
end read

section runs
variable {P : Program} {ρ : Env} {w : World} {ty : TypeId} {v : Value} {x y : Operand} {t e : TypeId} {p : Addr} {α : Type} [Rp α] {W : CW} {K : List Nat} {k : IntKind} {i : Int}
theorem Inf.get {s b : Nat} {z : Value} (h : Inf P t s b z) : ∃ i, P.info? t = some i ∧ i.zero = some z ∧ i.size = s ∧ i.bytes = b := by
  have h := h.h
  cases hi : P.info? t with
  | none => rw [hi] at h; simp at h
  | some i =>
    rw [hi] at h
    simp only [Option.map_some, Option.some.injEq, Prod.mk.injEq] at h
    exact ⟨i, rfl, h.1, h.2.1, h.2.2⟩
theorem R.ix {s b : Nat} {z : Value} [hU : Und P t (.slice e)] [hI : Inf P e s b z] {xs : List α} {u : α} (h : Rd W K [v] xs) (hg : gi xs i = some u) (hs : s = sz α) (hx : ev ρ x = v) (hy : ev ρ y = .int k i) :
    Run P ρ w (.indexAddr t x y) ty (.pointer (some ((slA v).add (i.toNat * sz α)))) := fun o h1 _ => by
  obtain ⟨h0, hi, hl⟩ := gi_some hg
  obtain ⟨j, hj, hz, hjs, hb⟩ := hI.get
  have hat := h.at_ hg
  obtain ⟨ad, cap, e', _, _, ha, _⟩ := h
  have e'' : v = .slice ad xs.length cap := by simpa using e'
  subst e''
  obtain ⟨a, rfl, _⟩ := ha (by omega)
  simp only [execOp, h1, hx, hy, Instr.indexAt, asIntOf, Sem.run_bind, Sem.run_pure, Result.andThen_ok, run_underlying hU.h, sizeOf, typeInfo, run_program, hj, Sem.run_ite]
  rw [if_pos ⟨h0, by omega⟩]
  simp [hjs, hs, slA]
def isSc : TypeDesc → Bool
  | .struct _ | .array _ _ => false
  | _ => true
theorem run_isAgg {d : TypeDesc} (h : Und P t d) : (isAgg t).run P w = .ok (!isSc d) w := by
  simp only [isAgg, Sem.run_bind, run_underlying h.h, Result.andThen_ok]
  cases d <;> rfl
theorem R.ld {d : TypeDesc} [hU : Und P t d] (hd : isSc d = true) (hp : ev ρ x = .pointer (some p)) (hc : w.cell? p = some v) : Run P ρ w (.load t x) ty v := fun o h1 _ => by
  simp [execOp, h1, hp, Instr.loadAt, Instr.sureAddr, loadVar, run_isAgg hU, hd, hc]
theorem R.lda {fs : Array Field} {s b : Nat} {z : Value} [hU : Und P t (.struct fs)] [hI : Inf P t s b z] {cs : List Value} (hc : CellsAt w p cs) (hl : cs.length = s) (hp : ev ρ x = .pointer (some p)) : Run P ρ w (.load t x) ty (.agg cs.toArray) := fun o h1 _ => by
  obtain ⟨j, hj, _, hjs, _⟩ := hI.get
  have := run_loadCells_list (P := P) w p cs hc
  rw [hl] at this
  simp [execOp, h1, hp, Instr.loadAt, Instr.sureAddr, loadVar, run_isAgg hU, isSc, sizeOf, typeInfo, hj, hjs, this]
end runs

/-! ### New blocks, boxes -/
abbrev bx (g : Nat) : Addr := ⟨g, 0, none⟩
def CW.new (W : CW) (k : Nat) (o : Obj) : CW := ⟨W.w.alloc o, fun b => bif Nat.beq b W.w.heap.size then k else W.c b⟩
/-- Block g, of colour k, holds just the cells cs. -/
def Bx (W : CW) (k g : Nat) (cs : List Value) : Prop := W.c g = k ∧ ∃ e, W.w.heap[g]? = some (.cells cs.toArray e (0, 0))
section box
variable {W W' : CW} {k g : Nat} {cs : List Value} {L : List Nat}
theorem CW.new_c {o : Obj} {b : Nat} (h : b < W.w.heap.size) : (W.new k o).c b = W.c b := by
  have : Nat.beq b W.w.heap.size = false := by cases hb : Nat.beq b W.w.heap.size with
    | false => rfl
    | true => have := Nat.eq_of_beq_eq_true hb; omega
  simp [CW.new, this]
theorem Le.new (k : Nat) (o : Obj) : Le L W (W.new k o) :=
  ⟨rfl, rfl, rfl, by simp [CW.new], fun b hb _ => ⟨Below.heap_alloc W.w o b hb, CW.new_c hb⟩⟩
theorem Bx.new (e : TypeId) : Bx (W.new k (.cells cs.toArray e)) k W.w.heap.size cs := by
  refine ⟨?_, e, heap_alloc_new W.w _⟩
  simp [CW.new, Nat.beq_refl]
theorem Bx.lt (h : Bx W k g cs) : g < W.w.heap.size := by
  obtain ⟨_, e, h⟩ := h
  exact (Array.getElem?_eq_some_iff.1 h).1
theorem Bx.up (h : Bx W k g cs) (l : Le L W W') (hd : disj [k] L = true) : Bx W' k g cs := by
  have hk : W.c g ∉ L := by rw [h.1]; exact disj_not hd (by simp)
  obtain ⟨h1, h2⟩ := l.keep g h.lt hk
  obtain ⟨e, he⟩ := h.2
  exact ⟨h2.trans h.1, e, h1.trans he⟩
theorem Bx.cells (h : Bx W k g cs) : CellsAt W.w (bx g) cs := fun j u hu => by
  obtain ⟨_, e, he⟩ := h
  rw [Addr.add_lit]
  simp only [World.cell?, he, Nat.zero_add]
  simpa using hu
theorem Bx.cell (h : Bx W k g cs) {j : Nat} {u : Value} (hu : cs[j]? = some u) : W.w.cell? ((bx g).add j) = some u := h.cells j u hu
theorem Bx.cell0 (h : Bx W k g cs) {u : Value} (hu : cs[0]? = some u) : W.w.cell? (bx g) = some u := by
  have := h.cells 0 u hu
  rwa [show (bx g).add 0 = bx g by simp [Addr.add]] at this
theorem Bx.frozen (h : Bx W k g cs) (j : Nat) : W.w.frozen? ((bx g).add j) = false := by
  obtain ⟨_, e, he⟩ := h
  rw [Addr.add_lit]
  simp [World.frozen?, he]
def CW.set (W : CW) (p : Addr) (v : Value) : CW := ⟨W.w.setCell p v, W.c⟩
theorem Le.set {p : Addr} {v : Value} (hp : W.c p.block ∈ L) : Le L W (W.set p v) :=
  ⟨rfl, rfl, rfl, by simp [CW.set, World.setCell], fun b _ hc => ⟨Below.heap_setCell _ _ _ _ (fun e => hc (by rw [e]; exact hp)), rfl⟩⟩
theorem Bx.set (h : Bx W k g cs) (j : Nat) (v : Value) : Bx (W.set ((bx g).add j) v) k g (cs.set j v) := by
  obtain ⟨hc, e, he⟩ := h
  refine ⟨hc, e, ?_⟩
  rw [Addr.add_lit]
  simp [CW.set, World.setCell, Array.getElem?_modify, he]
end box

section mem
variable {P : Program} {ρ : Env} {ty : TypeId} {v : Value} {x y : Operand} {t e : TypeId} {W : CW} {K : List Nat} {g : Nat} {cs : List Value}
abbrev ptr (p : Addr) : Value := .pointer (some p)
theorem T.box (k : Nat) {v : Value} (hx : ev ρ x = v) (hc : v.cells = cs.toArray) : Tr P ρ W.w (.box t x) ty (fun u w' => ∃ g W', W'.w = w' ∧ u = ptr (bx g) ∧ Le [] W W' ∧ Bx W' k g cs) := Tr.of_run fun o h1 _ =>
  ⟨_, _, by simp only [execOp, h1, hx, Instr.box, newVar, newRow, hc, Sem.run_bind, run_newObj, Result.andThen_ok, Sem.run_pure]; rfl, _, W.new k (.cells cs.toArray t), rfl, rfl, Le.new _ _, Bx.new t⟩
theorem T.alloc (k : Nat) {s b : Nat} {z : Value} [hI : Inf P t s b z] (hc : z.cells = cs.toArray) : Tr P ρ W.w (.alloc t) ty (fun u w' => ∃ g W', W'.w = w' ∧ u = ptr (bx g) ∧ Le [] W W' ∧ Bx W' k g cs) := Tr.of_run fun o h1 _ => by
  obtain ⟨j, hj, hz, _⟩ := hI.get
  exact ⟨_, _, by simp only [execOp, h1, Instr.alloc, zeroValue, typeInfo, hj, hz, newVar, newRow, hc, Sem.run_bind, run_program, run_newObj, Result.andThen_ok, Sem.run_pure]; rfl, _, W.new k (.cells cs.toArray t), rfl, rfl, Le.new _ _, Bx.new t⟩
theorem run_store1 {w : World} {p : Addr} {u : Value} (hv : v.oneCell' = true) (hc : w.cell? p = some u) (hf : w.frozen? p = false) : (store p v).run P w = .ok () (w.setCell p v) := by
  rw [run_store P w p v _ hv, hc]
  simp [hf]
theorem cells_one {v : Value} (hv : v.oneCell' = true) : v.cells = #[v] := by cases v <;> first | rfl | cases hv
/-- A store into one cell of a box. -/
theorem T.st {s b k j : Nat} {z : Value} [hI : Inf P t s b z] (h : Bx W k g cs) (hs : s = 1) (hj : Nat.blt j cs.length = true) (hv : v.oneCell' = true) (hp : ev ρ x = ptr ((bx g).add j)) (hy : ev ρ y = v) :
    Tr P ρ W.w (.store t x y) ty (fun _ w' => ∃ W', W'.w = w' ∧ Le [k] W W' ∧ Bx W' k g (cs.set j v)) := Tr.of_unit fun o h1 _ => by
  obtain ⟨i, hi, _, his, _⟩ := hI.get
  have hj' : j < cs.length := by simpa [Nat.blt_eq] using hj
  refine ⟨_, ?_, W.set ((bx g).add j) v, rfl, Le.set (by rw [add_block, h.1]; simp), h.set j v⟩
  have := run_store1 (P := P) hv (h.cell (List.getElem?_eq_getElem hj')) (h.frozen j)
  have h0 : ∀ q : Addr, q.add 0 = q := fun q => by simp [Addr.add]
  simp only [execOp, h1, hp, hy, Instr.storeAt, Instr.sureAddr, Sem.run_bind, Sem.run_pure, Result.andThen_ok, storeVar, sizeOf, typeInfo, run_program, hi, his, hs, cells_one hv, Sem.run_ite]
  rw [if_neg (by simp)]
  simp only [storeCells, h0, Sem.run_bind, this, Result.andThen_ok, Sem.run_pure]
  rfl
theorem T.st0 {s b k : Nat} {z : Value} [hI : Inf P t s b z] (h : Bx W k g cs) (hs : s = 1) (hj : Nat.blt 0 cs.length = true) (hv : v.oneCell' = true) (hp : ev ρ x = ptr (bx g)) (hy : ev ρ y = v) :
    Tr P ρ W.w (.store t x y) ty (fun _ w' => ∃ W', W'.w = w' ∧ Le [k] W W' ∧ Bx W' k g (cs.set 0 v)) :=
  T.st h hs hj hv (by rw [hp]; simp [Addr.add]) hy
theorem storeCells_box : ∀ (vs cs : List Value) (W : CW) (k j : Nat), Bx W k g cs → j + vs.length ≤ cs.length → (∀ v ∈ vs, v.oneCell' = true) →
    ∃ W', (storeCells (bx g) vs j).run P W.w = .ok () W'.w ∧ Le [k] W W' ∧ Bx W' k g (cs.take j ++ vs ++ cs.drop (j + vs.length))
  | [], cs, W, k, j, h, _, _ => ⟨W, rfl, Le.refl _ _, by simpa using h⟩
  | v :: vs, cs, W, k, j, h, hl, hv => by
    simp only [List.length_cons] at hl
    have hs := run_store1 (P := P) (v := v) (hv v (by simp)) (h.cell (List.getElem?_eq_getElem (show j < cs.length by omega))) (h.frozen j)
    obtain ⟨W', hr, hle, hb⟩ := storeCells_box vs (cs.set j v) (W.set ((bx g).add j) v) k (j + 1) (h.set j v) (by simp; omega) (fun u hu => hv u (by simp [hu]))
    refine ⟨W', ?_, (Le.set (by rw [add_block, h.1]; simp)).trans hle, ?_⟩
    · simp only [storeCells, Sem.run_bind, hs, Result.andThen_ok]
      exact hr
    · have e : (cs.set j v).take (j + 1) ++ vs ++ (cs.set j v).drop (j + 1 + vs.length) = cs.take j ++ (v :: vs) ++ cs.drop (j + (v :: vs).length) := by
        rw [List.take_add_one, List.take_set_of_le (Nat.le_refl j), List.getElem?_set_self (by omega), List.drop_set, if_pos (by omega)]
        simp [Nat.add_assoc, Nat.add_comm 1]
      rw [e] at hb
      exact hb
/-- A store of a whole struct into a box. -/
theorem T.sta {s b k : Nat} {z : Value} {vs : List Value} [hI : Inf P t s b z] (h : Bx W k g cs) (hs : s = vs.length) (hl : vs.length = cs.length) (hv : ∀ v ∈ vs, v.oneCell' = true) (hp : ev ρ x = ptr (bx g)) (hy : ev ρ y = .agg vs.toArray) :
    Tr P ρ W.w (.store t x y) ty (fun _ w' => ∃ W', W'.w = w' ∧ Le [k] W W' ∧ Bx W' k g vs) := Tr.of_unit fun o h1 _ => by
  obtain ⟨i, hi, _, his, _⟩ := hI.get
  obtain ⟨W', hr, hle, hb⟩ := storeCells_box (P := P) vs cs W k 0 h (by omega) hv
  refine ⟨W'.w, ?_, W', rfl, hle, ?_⟩
  · simp only [execOp, h1, hp, hy, Instr.storeAt, Instr.sureAddr, Sem.run_bind, Sem.run_pure, Result.andThen_ok, storeVar, sizeOf, typeInfo, run_program, hi, his, hs, Value.cells, Sem.run_ite]
    rw [if_neg (by simp)]
    simp [hr]
  · simpa [hl] using hb
end mem

/-! ### Calls -/
def CallR (P : Program) (f : FuncId) (vals : Array Value) (w : World) (R : Value → World → Prop) : Prop := Calls P f vals w fun e w' => ∃ v, e = .returned v ∧ R v w'
theorem CallR.mono {P : Program} {f : FuncId} {vals : Array Value} {w : World} {R R' : Value → World → Prop} (h : CallR P f vals w R) (hr : ∀ v w', R v w' → R' v w') : CallR P f vals w R' :=
  Calls.mono h fun _ w' ⟨v, e, hv⟩ => ⟨v, e, hr v w' hv⟩
theorem T.call {P : Program} {ρ : Env} {w : World} {ty : TypeId} {f : FuncId} {args : Array Operand} {tys : Array TypeId} {vals : List Value} {R : Value → World → Prop} [hF : Fun P f] (ha : args.toList.map (ev ρ) = vals) (hc : CallR P f vals.toArray w R) :
    Tr P ρ w (.call ⟨.value (.func f), args, tys⟩) ty R := fun o h1 _ a K Q hav hk => by
  obtain ⟨fn, hf, hb, hn⟩ := hF.h
  have ha : args.map (ev ρ) = vals.toArray := by
    apply Array.ext'
    rw [Array.toList_map, ha]
  have hr : (execOp (ev ρ) o).run P w = .ok (.enter f vals.toArray) w := by
    simp only [execOp, h1, resolve, ev, Deferred.ofValue, Sem.run_bind, Sem.run_pure, Result.andThen_ok, invoke, callFunc, run_program, hf, hn, hb, ha, Bool.false_eq_true, if_false]
    simp
  unfold Oper.wp
  rw [hav, hr]
  exact Calls.mono hc fun e w' ⟨v, e', hv⟩ => by subst e'; exact hk v w' hv

/-- What the results are. -/
def ResOk (P : Program) (w : World) (ρ : Env) : List ResultVar → List Value → Prop
  | [], [] => True
  | .tmp t :: l, v :: vs => v = ρ t ∧ ResOk P w ρ l vs
  | .cell a ty :: l, v :: vs => (∃ p, ρ a = ptr p ∧ (loadVar ty p).run P w = .ok v w) ∧ ResOk P w ρ l vs
  | _, _ => False
def resV : List Value → Value
  | [v] => v
  | vs => .tuple vs.toArray
def RetP (P : Program) (res : List ResultVar) (R : Value → World → Prop) : Post
  | .ret, ρ, w | .normal, ρ, w => ∃ vs, ResOk P w ρ res vs ∧ R (resV vs) w
  | _, _, _ => False
def resSem (tmps : Array Value) : ResultVar → Sem Value
  | .tmp t => pure (tmps.getD t undef)
  | .cell a t => do loadVar t (← asAddr (tmps.getD a undef))
theorem run_results {P : Program} {w : World} {ρ : Env} {n : Nat} {a : Act} (ha : Fits n a ρ) : ∀ (l : List ResultVar) (vs : List Value), ResOk P w ρ l vs → (l.mapM (resSem a.tmps)).run P w = .ok vs w
  | [], [], _ => by simp
  | .tmp t :: l, v :: vs, h => by
    have := run_results ha l vs h.2
    have hv := ha.val t
    rw [← h.1] at hv
    simp only [List.mapM_cons, Sem.run_bind, resSem, hv, Sem.run_pure, Result.andThen_ok, this]
  | .cell q t :: l, v :: vs, h => by
    have := run_results ha l vs h.2
    obtain ⟨p, hp, hl⟩ := h.1
    have hv := ha.val q
    rw [hp] at hv
    simp only [List.mapM_cons, Sem.run_bind, resSem, hv, asAddr, Sem.run_pure, Result.andThen_ok, this, hl]
  | [], _ :: _, h => h.elim
  | .tmp _ :: _, [], h => h.elim
  | .cell _ _ :: _, [], h => h.elim
theorem CallR.of {P : Program} {f : FuncId} {fn : Func} {c : Code} {n : Nat} {res : List ResultVar} {vals : List Value} {w : World} {R : Value → World → Prop} (hf : P.funcs[f]? = some fn) (hb : fn.body = some c) (hn : fn.ntmps = n)
    (hr : fn.results = res.toArray) (hl' : Nat.ble vals.length n = true) (h : Cw P n c (RetP P res R) (envL vals) w) : CallR P f vals.toArray w R := by
  subst hn
  have hl : vals.length ≤ fn.ntmps := by simpa using hl'
  refine calls_of_wp hf hb ?_
  have hfit : Fits fn.ntmps { tmps := vals.toArray ++ Array.replicate (fn.ntmps - vals.toArray.size) undef, defers := [] } (envL vals) := by
    refine ⟨by simp only [Array.size_append, List.size_toArray, Array.size_replicate]; omega, rfl, fun i => ?_⟩
    have key : ∀ (l : List Value) (i : Nat), envL l i = l[i]?.getD undef := by
      intro l
      induction l with
      | nil => intro i; simp [envL]
      | cons u l ih => intro i; cases i with
        | zero => simp [envL]
        | succ j => simp [envL, ih]
    rw [key, Array.getD_eq_getD_getElem?, Array.getElem?_append]
    by_cases hi : i < vals.length
    · simp [hi]
    · simp only [List.size_toArray, hi, if_false, Array.getElem?_replicate, List.getElem?_eq_none (show vals.length ≤ i by omega)]
      split <;> rfl
  refine Code.wp_mono ?_ (h _ hfit)
  rintro e a' w' ⟨ρ', hf', hq⟩
  have fin : (∃ vs, ResOk P w' ρ' res vs ∧ R (resV vs) w') → a'.defers = [] ∧ ∃ v, (results fn a'.tmps).run P w' = .ok v w' ∧ (∃ u, Ending.returned v = .returned u ∧ R u w') := by
    rintro ⟨vs, hok, hR⟩
    refine ⟨hf'.df, resV vs, ?_, _, rfl, hR⟩
    have := run_results hf' res vs hok
    have e2 : ∀ us : List Value, (if h : us.toArray.size = 1 then us.toArray[0] else Value.tuple us.toArray) = resV us := by
      intro us
      match us with
      | [] => rfl
      | [u] => rfl
      | _ :: _ :: _ => simp [resV]
    have e3 : (results fn a'.tmps) = (do
        let vs ← res.toArray.mapM (resSem a'.tmps)
        pure (if h : vs.size = 1 then vs[0] else .tuple vs)) := by
      simp only [results, hr]
      congr 1
    rw [e3]
    simp only [List.mapM_toArray, Sem.run_bind, Sem.run_map, this, Result.andThen_ok, Sem.run_pure, e2]
  cases e with
  | ret => exact fin hq
  | normal => exact fin hq
  | _ => exact hq.elim
end Go.Sx
