/- What the printed walks use: short words for reading, returning, adapting; lists of colours. Conditions: none; each rule's own premises. -/
import Derived.Test.YtmjjhnahdmlmaaaDoorXSg
namespace Go.Sx
open Go Go.RowKit Rp
set_option linter.unusedSimpArgs false
set_option linter.unusedVariables false

/-- All colours that a walk gives to what is its own. -/
def LL : List Nat := [2, 3, 4, 5, 6, 7, 8, 9, 10, 11, 12, 13, 14, 15, 16, 17, 18, 19, 20, 21, 22, 23, 24, 25, 26, 27, 28, 29, 30, 31, 32, 33, 34, 35, 36, 37, 38, 39, 40]

section
variable {α β : Type} [Rp α] [Rp β] {W W' V Wf : CW} {k : Nat} {K K' L J : List Nat} {v v' : Value} {xs ys : List α} {cs : List Value} {x : α} {g : Nat} {p : Addr}
variable {P : Program} {ρ : Env} {ty' : TypeId} {a : Operand} {t e : TypeId} {s b : Nat} {z : Value} {w : World} {f : FuncId} {vals : Array Value}
theorem Rd.ul (h : Rd W [0] cs x) (l : Le LL W W') : Rd W' [0] cs x := h.up l rfl
theorem At.ul (h : At W [0] p x) (l : Le LL W W') : At W' [0] p x := h.up l rfl
theorem lenR [hU : Und P t (.slice e)] (h : Rd W K [v] xs) (hx : ev ρ a = v) : Run P ρ w (.call ⟨.builtin .len, #[a], #[t]⟩) ty' (vI xs.length) := by
  obtain ⟨ad, c, rfl, _⟩ := h.slice_form
  exact R.lenV hx
/-- The slice v[l:h], as a value. -/
def cutV (v : Value) (l h s : Nat) : Value := match v with
  | .slice a _ c => sliced a l h c s
  | _ => v
omit [Rp α] in
theorem slM_some {l h : Int} (hm : slM xs l h = some ys) : 0 ≤ l ∧ l ≤ h ∧ h ≤ xs.length ∧ ys = (xs.take h.toNat).drop l.toNat := by
  unfold slM at hm
  split at hm
  · rename_i hh; exact ⟨hh.1, hh.2.1, hh.2.2, (Option.some.inj hm).symm⟩
  · cases hm
theorem Rd.cutV (h : Rd W K [v] xs) {l m : Int} (hm : slM xs l m = some ys) : Rd W K [cutV v l.toNat m.toNat (sz α)] ys := by
  obtain ⟨h0, h1, h2, rfl⟩ := slM_some hm
  obtain ⟨ad, c, rfl, _⟩ := h.slice_form
  exact Rd.cut h (by omega) (by omega)
theorem R.sl [hU : Und P t (.slice e)] [hI : Inf P e s b z] {lo hi : Option Operand} {l m : Int} (h : Rd W K [v] xs) (hm : slM xs l m = some ys) (hx : ev ρ a = v)
    (hl : (lo.map (ev ρ) = none ∧ l = 0) ∨ lo.map (ev ρ) = some (vI l)) (hh : (hi.map (ev ρ) = none ∧ m = xs.length) ∨ hi.map (ev ρ) = some (vI m)) (hs : s = sz α := by rfl) :
    Run P ρ w (.slice t a lo hi none) ty' (Sx.cutV v l.toNat m.toNat (sz α)) := fun o h1 _ => by
  obtain ⟨h0, h01, h2, rfl⟩ := slM_some hm
  obtain ⟨ad, c, rfl, hc, _⟩ := h.slice_form
  obtain ⟨i, hi', _, his, _⟩ := hI.get
  have hb : (Instr.sliceBounds true xs.length c (lo.map (ev ρ)) (hi.map (ev ρ)) none).run P w = .ok (l.toNat, m.toNat, c) w := by
    have em : (m.toNat : Int) = m := by omega
    rcases hl with ⟨e, rfl⟩ | e <;> rcases hh with ⟨e', rfl⟩ | e' <;> rw [e, e']
    · simp [Instr.sliceBounds]
    · simp [Instr.sliceBounds, Instr.sliceBound, asIntOf, (by omega : 0 ≤ m), (by omega : m ≤ (c : Int))]
    · simp [Instr.sliceBounds, Instr.sliceBound, asIntOf, h0, (by omega : l ≤ (xs.length : Int))]
    · simp [Instr.sliceBounds, Instr.sliceBound, asIntOf, h0, (by omega : 0 ≤ m), (by omega : m ≤ (c : Int)), em, (by omega : l ≤ m)]
  simp only [execOp, h1, hx, Option.map_none, Instr.sliceAt, Sem.run_bind, run_underlying hU.h, Result.andThen_ok, Instr.slice, hb, sizeOf, typeInfo, run_program, hi', Sem.run_pure, his, hs]
  rfl

/-! ### Results -/
theorem ret1 {t : Nat} {R : Value → World → Prop} {ρ : Env} (h : ρ t = v) (hR : R v w) : RetP P [.tmp t] R .ret ρ w := ⟨[v], ⟨h.symm, trivial⟩, hR⟩
theorem ret2 {t t' : Nat} {R : Value → World → Prop} {ρ : Env} (h : ρ t = v) (h' : ρ t' = v') (hR : R (.tuple #[v, v']) w) : RetP P [.tmp t, .tmp t'] R .ret ρ w := ⟨[v, v'], ⟨h.symm, h'.symm, trivial⟩, hR⟩
theorem Bx.loadA {fs : Array Field} [hU : Und P t (.struct fs)] [hI : Inf P t s b z] (h : Bx W k g cs) (hs : s = cs.length) : (loadVar t (bx g)).run P W.w = .ok (.agg cs.toArray) W.w := by
  obtain ⟨j, hj, _, hjs, _⟩ := hI.get
  have := run_loadCells_list (P := P) W.w (bx g) cs h.cells
  rw [← hs] at this
  simp [loadVar, run_isAgg hU, isSc, sizeOf, typeInfo, hj, hjs, this]
theorem retA1 {q : Nat} {R : Value → World → Prop} {ρ : Env} {fs : Array Field} [Und P t (.struct fs)] [Inf P t s b z] (h : ρ q = ptr (bx g)) (hB : Bx W k g cs) (hR : R (.agg cs.toArray) W.w) (hs : s = cs.length := by rfl) : RetP P [.cell q t] R .ret ρ W.w :=
  ⟨[.agg cs.toArray], ⟨⟨_, h, hB.loadA hs⟩, trivial⟩, hR⟩
theorem retA2 {q r : Nat} {R : Value → World → Prop} {ρ : Env} {fs : Array Field} [Und P t (.struct fs)] [Inf P t s b z] (h : ρ q = ptr (bx g)) (hB : Bx W k g cs) (h' : ρ r = v') (hR : R (.tuple #[.agg cs.toArray, v']) W.w) (hs : s = cs.length := by rfl) : RetP P [.cell q t, .tmp r] R .ret ρ W.w :=
  ⟨[.agg cs.toArray, v'], ⟨⟨_, h, hB.loadA hs⟩, h'.symm, trivial⟩, hR⟩
theorem ret2A {q r : Nat} {R : Value → World → Prop} {ρ : Env} {fs : Array Field} [Und P t (.struct fs)] [Inf P t s b z] (h : ρ q = ptr (bx g)) (hB : Bx W k g cs) (h' : ρ r = v') (hR : R (.tuple #[v', .agg cs.toArray]) W.w) (hs : s = cs.length := by rfl) : RetP P [.tmp r, .cell q t] R .ret ρ W.w :=
  ⟨[v', .agg cs.toArray], ⟨h'.symm, ⟨_, h, hB.loadA hs⟩, trivial⟩, hR⟩

/-- From the callee's view to the caller's. -/
theorem CallR.ad {R R' : CW → Value → Prop} (f' : Nat → Nat) (h : CallR P f vals (W.view K []).w (Res (W.view K []) LL R)) (hR : ∀ Wf v, R Wf v → R' (W.back Wf K [] f') v) : CallR P f vals W.w (Res W [] R') :=
  CallR.mono h fun v w' ⟨Wf, e, l, hr⟩ => by subst e; exact Res.fin l f' (hR Wf v hr)
theorem Res.mk {R : CW → Value → Prop} (l : Le LL V Wf) (h : R Wf v) : Res V LL R v Wf.w := ⟨Wf, rfl, l, h⟩
/-- The colours of a callee's own results: all become k. -/
def fk (k : Nat) (c : Nat) : Nat := if c = 0 then 0 else k

theorem Agree.ov0 {lo hi lo' hi' : Nat} {vs : List Nat} {l : List Value} {σ ρ ρ' : Env} (h1 : (Nat.ble lo lo' && Nat.ble hi' hi) = true) (h : Agree lo hi vs ρ ρ') : Agree lo hi vs (Sx.ovl lo' hi' [] l σ ρ) ρ' := fun i hi2 => by
  have hb : (Nat.ble lo' i && Nat.ble i hi') = false := by
    cases hb : (Nat.ble lo' i && Nat.ble i hi') with
    | false => rfl
    | true =>
      simp only [Bool.and_eq_true, Nat.ble_eq] at hb h1
      have : (Nat.ble lo i && Nat.ble i hi) = true := by simp only [Bool.and_eq_true, Nat.ble_eq]; omega
      simp [inR, this] at hi2
  simp only [Sx.ovl, hb, cond_false]
  exact h i hi2

theorem fk_LL (k : Nat) : ∀ c ∈ LL, fk k c = k := fun c hc => by
  unfold fk
  rw [if_neg]
  intro h
  rw [h] at hc
  revert hc
  decide
/-- Structs of n fields, each of which takes one cell. -/
class Flat (P : Program) (t : TypeId) (n : outParam Nat) : Prop where
  h : ∃ fs, P.underlying t = some (.struct fs) ∧ fs.size = n ∧ ((List.range n).all fun i => match fs[i]? with
    | some f => f.offset == i && (P.info? f.type).map (·.size) == some 1
    | none => false) = true
theorem Flat.fld {n i : Nat} [hF : Flat P t n] (hi : i < n) : Fld P t i i := by
  obtain ⟨fs, hu, hsz, hB⟩ := hF.h
  rw [List.all_eq_true] at hB
  have h := hB i (List.mem_range.2 hi)
  have hlt : i < fs.size := by rw [hsz]; exact hi
  rw [Array.getElem?_eq_getElem hlt] at h
  simp only [Bool.and_eq_true, beq_iff_eq] at h
  cases hinf : P.info? fs[i].type with
  | none => rw [hinf] at h; simp at h
  | some inf =>
    rw [hinf] at h
    simp only [Option.map_some, Option.some.injEq] at h
    exact ⟨fs, fs[i], inf, hu, Array.getElem?_eq_getElem hlt, h.1, hinf, by omega⟩
theorem places_run : ∀ (l : List Field) (k : Nat), (∀ (i : Nat) f, l[i]? = some f → f.offset = k + i ∧ (sizeOf f.type).run P w = .ok 1 w) →
    (l.mapM fun f => (do pure (f.offset, ← sizeOf f.type) : Sem (Nat × Nat))).run P w = .ok ((List.range' k l.length).map fun i => (i, 1)) w
  | [], k, _ => by simp
  | f :: l, k, h => by
    have h0 := h 0 f rfl
    have ih := places_run l (k + 1) (fun i g hg => by have := h (i + 1) g hg; exact ⟨by omega, this.2⟩)
    simp only [List.mapM_cons, Sem.run_bind, h0.2, Result.andThen_ok, Sem.run_pure, ih, List.length_cons, List.range'_succ, List.map_cons]
    rw [show f.offset = k by have := h0.1; omega]
theorem fill_flat {place : Nat → Option (Nat × Nat)} : ∀ (vs : List (Nat × Value)) (zs : List Value), (∀ i, i < zs.length → place i = some (i, 1)) → (∀ p ∈ vs, p.2.oneCell' = true ∧ p.1 < zs.length) →
    Instr.fill place zs.toArray vs = some (vs.foldl (fun cs p => cs.set p.1 p.2) zs).toArray
  | [], zs, _, _ => rfl
  | (i, v) :: vs, zs, hp, hv => by
    have h0 := hv (i, v) (by simp)
    have hc := cells_one h0.1
    simp only [Instr.fill, hp i h0.2, hc]
    rw [if_neg (by simp; have := h0.2; simp at this; omega)]
    have e : ((#[v] : Array Value).zipIdx.foldl (fun cs (x : Value × Nat) => cs.setIfInBounds (i + x.2) x.1) zs.toArray) = (zs.set i v).toArray := by simp
    rw [e]
    exact fill_flat vs (zs.set i v) (fun j hj => hp j (by simpa using hj)) (fun p hp' => by have := hv p (by simp [hp']); simpa using this)
theorem R.bd {n : Nat} {zs cs : List Value} [hF : Flat P t n] [hI : Inf P t s b z] {parts : Array (Nat × Operand)} (vs : List (Nat × Value)) (hp : parts.toList.map (fun p => (p.1, ev ρ p.2)) = vs) (hz : z.cells = zs.toArray) (hc : vs.foldl (fun cs p => cs.set p.1 p.2) zs = cs) (hv : ∀ p ∈ vs, p.2.oneCell' = true ∧ p.1 < zs.length) (hn : zs.length = n := by rfl) :
    Run P ρ w (.build t parts) ty' (.agg cs.toArray) := fun o h1 _ => by
  obtain ⟨fs, hu, hsz, hB⟩ := hF.h
  obtain ⟨i, hi, hz', his, _⟩ := hI.get
  have hpl : (parts.map fun p => (p.1, ev ρ p.2)).toList = vs := by rw [Array.toList_map]; exact hp
  have hf : ∀ (i : Nat) f, fs.toList[i]? = some f → f.offset = 0 + i ∧ (sizeOf f.type).run P w = .ok 1 w := fun i f hf => by
    have hlt : i < n := by rw [← hsz]; have := (List.getElem?_eq_some_iff.1 hf).1; simpa using this
    rw [List.all_eq_true] at hB
    have := hB i (List.mem_range.2 hlt)
    rw [show fs[i]? = some f by simpa using hf] at this
    simp only [Bool.and_eq_true, beq_iff_eq] at this
    obtain ⟨h1, h2⟩ := this
    cases hinf : P.info? f.type with
    | none => rw [hinf] at h2; cases h2
    | some inf =>
      rw [hinf] at h2
      simp only [Option.map_some, Option.some.injEq] at h2
      exact ⟨by omega, by simp [sizeOf, typeInfo, hinf, h2]⟩
  have hpr := places_run (P := P) (w := w) fs.toList 0 hf
  have hpl2 : (fs.mapM fun f => (do pure (f.offset, ← sizeOf f.type) : Sem (Nat × Nat))).run P w = .ok ((List.range' 0 n).map fun i => (i, 1)).toArray w := by
    rw [← Array.toArray_toList (xs := fs), List.mapM_toArray]
    simp only [Sem.run_map]
    rw [hpr]
    simp [hsz]
  have hfill := fill_flat (place := fun i => (((List.range' 0 n).map fun i => (i, 1)).toArray)[i]?) vs zs (fun i hi => by
    rw [hn] at hi
    simp [List.getElem?_range', hi]) hv
  rw [hc] at hfill
  simp only [execOp, h1, Instr.build, zeroValue, typeInfo, Sem.run_bind, run_program, hi, Sem.run_pure, Result.andThen_ok, hz', run_underlying hu, hz]
  rw [hpl2]
  simp only [Result.andThen_ok, hpl, hfill, Sem.run_pure]

theorem R.sad {s r q : Str} {x y : Operand} {t' : TypeId} (hm : saM s r = some q) (hx : ev ρ x = vS s) (hy : ev ρ y = vS r) : Run P ρ w (.binOp .add t x y t') ty' (vS q) := by
  unfold saM at hm
  split at hm
  · simp only [Option.some.injEq] at hm
    subst hm
    exact R.sadd hx hy (by rename_i hl; unfold lim at hl; omega)
  · cases hm
theorem R.chm {s : Str} {i : Int} [hU : Und P t .string] {u : UInt8} {x y : Operand} {k : IntKind} (hm : chM s i = some u) (hx : ev ρ x = vS s) (hy : ev ρ y = .int k i) : Run P ρ w (.index t x y) ty' (.int .u8 u.toNat) := by
  obtain ⟨h0, h1, _⟩ := gi_some hm
  exact R.chr hx hy h0 h1
theorem R.ss {s q : Str} [hU : Und P t .string] {lo hi : Option Operand} {l m : Int} (hm : slM s l m = some q) (hx : ev ρ a = vS s)
    (hl : (lo.map (ev ρ) = none ∧ l = 0) ∨ lo.map (ev ρ) = some (vI l)) (hh : (hi.map (ev ρ) = none ∧ m = s.length) ∨ hi.map (ev ρ) = some (vI m)) : Run P ρ w (.slice t a lo hi none) ty' (vS q) := by
  obtain ⟨h0, h1, h2, rfl⟩ := slM_some hm
  refine R.subS hx (l := l.toNat) (h := m.toNat) ?_ ?_ (by omega) (by omega)
  · rcases hl with ⟨e, rfl⟩ | e
    · exact .inl ⟨e, rfl⟩
    · exact .inr ⟨l, e, h0, rfl⟩
  · rcases hh with ⟨e, rfl⟩ | e
    · exact .inl ⟨e, by simp⟩
    · exact .inr ⟨m, e, by omega, rfl⟩
theorem Rd.oc (h : Rd W K [v] x) : v.oneCell' = true := rd_one h v (by simp)
theorem Ow.oc (h : Ow W k K [v] x) : v.oneCell' = true := h.rd.oc
theorem oc_nil : ∀ u ∈ ([] : List Value), u.oneCell' = true := fun _ h => by cases h
theorem oc_cons {vs : List Value} (h : v.oneCell' = true) (hs : ∀ u ∈ vs, u.oneCell' = true) : ∀ u ∈ v :: vs, u.oneCell' = true := fun u hu => by
  rcases List.mem_cons.1 hu with rfl | hu
  · exact h
  · exact hs u hu
theorem bp_nil {n : Nat} : ∀ q ∈ ([] : List (Nat × Value)), q.2.oneCell' = true ∧ q.1 < n := fun _ h => by cases h
theorem bp_cons {n i : Nat} {vs : List (Nat × Value)} (h : v.oneCell' = true) (hi : Nat.blt i n = true) (hs : ∀ q ∈ vs, q.2.oneCell' = true ∧ q.1 < n) : ∀ q ∈ (i, v) :: vs, q.2.oneCell' = true ∧ q.1 < n := fun q hq => by
  rcases List.mem_cons.1 hq with rfl | hq
  · exact ⟨h, by simpa [Nat.blt_eq] using hi⟩
  · exact hs q hq
theorem rdN : Rd W K [.slice none 0 0] ([] : List α) := own_rd (S := []) (A := fun _ => False) (Zr.own (α := List α)) (fun _ h => by cases h) (fun _ h => h.elim)
theorem owN (k : Nat) (K : List Nat) : Ow W k K [.slice none 0 0] ([] : List α) := Ow.zr (α := List α) k K
theorem owsN (K : List Nat) : OwS W [] K [.slice none 0 0] ([] : List α) := OwS.zr (α := List α) K
theorem Bx.clc (h : Bx W k g cs) {j : Nat} {u : Value} (hu : cs[j]? = some u) (hd : disj [k] L = true) {w' : World} (c : Cl W L w') : w'.cell? ((bx g).add j) = some u := by
  obtain ⟨W', rfl, l⟩ := c
  exact (h.up l hd).cell hu
theorem Bx.clc0 (h : Bx W k g cs) {u : Value} (hu : cs[0]? = some u) (hd : disj [k] L = true) {w' : World} (c : Cl W L w') : w'.cell? (bx g) = some u := by
  obtain ⟨W', rfl, l⟩ := c
  exact (h.up l hd).cell0 hu
theorem Bx.clcs (h : Bx W k g cs) (hd : disj [k] L = true) {w' : World} (c : Cl W L w') : CellsAt w' (bx g) cs := by
  obtain ⟨W', rfl, l⟩ := c
  exact (h.up l hd).cells
theorem cl_cells (ha : AK W K p.block) (hd : disj K L = true) (hc : CellsAt W.w p cs) {w' : World} (c : Cl W L w') : CellsAt w' p cs := by
  obtain ⟨W', rfl, l⟩ := c
  exact hc.keep (AK.up l hd ha).1
omit [Rp α] in
theorem Each.cons {R : List Value → α → Prop} {es : List (List Value)} (h : R cs x) (k : Each R es xs) : Each R (cs :: es) (x :: xs) := by
  have := (Each.one h).append k
  simpa using this
end
end Go.Sx
