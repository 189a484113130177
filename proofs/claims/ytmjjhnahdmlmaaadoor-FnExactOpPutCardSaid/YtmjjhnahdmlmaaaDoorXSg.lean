/- make, stores into owned rows; how a callee's colours become its caller's. Conditions: none; each rule's own premises. -/
import Derived.Test.YtmjjhnahdmlmaaaDoorXSf
namespace Go.Sx
open Go Go.RowKit Rp
set_option linter.unusedSimpArgs false
set_option linter.unusedVariables false

section
variable {α β : Type} [Rp α] [Rp β] {W W' : CW} {k k' : Nat} {K K' L : List Nat} {v u : Value} {xs ys : List α} {cs : List Value} {x : α} {g : Nat}
variable {P : Program} {ρ : Env} {ty' : TypeId} {p q : Operand} {t e : TypeId} {s b : Nat} {z : Value}

theorem made_flatten (z : List Value) (s : Nat) (hz : z.length = s) (hs : 0 < s) : ∀ n : Nat, (madeCells z.toArray (n * s)).toList = (List.replicate n z).flatten := by
  intro n
  apply List.ext_getElem?
  intro j
  have hl : ((List.replicate n z).flatten).length = n * s := by simp [hz]
  by_cases hj : j < n * s
  · have h1 : (madeCells z.toArray (n * s)).toList[j]? = some (z[j % s]'(by rw [hz]; exact Nat.mod_lt _ hs)) := by
      simp [madeCells, hj, hz]
      rw [List.getElem?_eq_getElem (by rw [hz]; exact Nat.mod_lt _ hs)]
      rfl
    rw [h1]
    have hdiv : j / s < n := by rw [Nat.div_lt_iff_lt_mul hs]; exact hj
    have := flatten_at s (List.replicate n z) (j / s) z (fun c hc => by rw [(List.mem_replicate.1 hc).2]; exact hz) (by simp [hdiv]) (j % s) (z[j % s]'(by rw [hz]; exact Nat.mod_lt _ hs)) (by simp)
    rw [Nat.div_add_mod'] at this
    exact this.symm
  · rw [List.getElem?_eq_none (by simp [madeCells]; omega), List.getElem?_eq_none (by rw [hl]; omega)]
/-- make([]T, n). -/
theorem T.mk [Zr α] (k : Nat) (K : List Nat) [hU : Und P t (.slice e)] [hI : Inf P e s b z] {n : Int} (hp : ev ρ p = vI n) (hq : ev ρ q = vI n) (hm : mkM n (Zr.z : α) = some xs)
    (hz : z.cells = (Zr.cs α).toArray := by rfl) (hs : s = sz α := by rfl) (he : e = ty α := by rfl) (hs0 : Nat.blt 0 s = true := by rfl) (hb : Nat.ble b 32768 = true := by rfl) :
    Tr P ρ W.w (.makeSlice t p q) ty' (fun u w' => ∃ W', W'.w = w' ∧ Le [] W W' ∧ Ow W' k K [u] xs) := Tr.of_run fun o h1 _ => by
  unfold mkM at hm
  split at hm
  case isFalse => cases hm
  rename_i hn
  simp only [Option.some.injEq] at hm
  subst hm
  subst he
  subst hs
  obtain ⟨m, rfl⟩ := Int.eq_ofNat_of_zero_le hn.1
  have hm' : m ≤ lim := by omega
  obtain ⟨i, hi, hz', his, hib⟩ := hI.get
  have hb' : b ≤ 32768 := by simpa using hb
  have hs0' : 0 < sz α := by simpa [Nat.blt_eq] using hs0
  have hby : i.bytes * m ≤ 281474976710656 := by rw [hib]; exact Nat.le_trans (Nat.mul_le_mul hb' hm') (by decide)
  have hzl : (Zr.cs α).length = sz α := own_len (w := W.w) (A := fun _ => True) (S := []) (x := (Zr.z : α)) Zr.own
  have hr : (Instr.makeSlice t (.int .i64 (m : Int)) (.int .i64 (m : Int))).run P W.w = .ok (.slice (some ⟨W.w.heap.size, 0, none⟩) m m) (W.w.alloc (.cells (madeCells z.cells (m * i.size)) (ty α))) := by
    have hbi : (i.bytes : Int) * (m : Int) ≤ 281474976710656 := by
      have h : ((i.bytes * m : Nat) : Int) ≤ 281474976710656 := by omega
      rwa [Int.natCast_mul] at h
    have := run_make (P := P) W.w t (ty α) i z hU.h hi hz' .i64 .i64 m m (by omega) (Int.le_refl _) hbi (by unfold lim at hm'; omega)
    simpa using this
  refine ⟨_, _, by simp only [execOp, h1, hp, hq, hr, Sem.run_bind, Result.andThen_ok, Sem.run_pure]; rfl, W.new k (.cells (madeCells z.cells (m * i.size)) (ty α)), rfl, Le.new _ _, [W.w.heap.size], ⟨_, List.replicate m (Zr.cs α), List.replicate m [], rfl, ?_, by simp [Value.ownBlock], by simp, by simp, fun i cs x T h1 h2 h3 => ?_⟩, by simp, fun b hb => ?_⟩
  · have := World.ownsRow_lit (base := 0) (e := ty α) (size := sz α) W.w (madeCells z.cells (m * i.size)) m (Nat.zero_le _) (by unfold maxLen; unfold lim at hm'; omega) (by rw [his]; exact size_madeCells _ _)
    rw [← made_flatten (Zr.cs α) (sz α) hzl hs0' m, ← hz]
    simp only [Int.toNat_natCast, List.length_replicate]
    rw [his] at this ⊢
    exact this
  · have e1 : T = [] := (List.mem_replicate.1 (List.mem_of_getElem? h3)).2
    have e2 : cs = Zr.cs α := (List.mem_replicate.1 (List.mem_of_getElem? h1)).2
    have e3 : x = Zr.z := (List.mem_replicate.1 (List.mem_of_getElem? h2)).2
    subst e1; subst e2; subst e3
    exact Zr.own
  · simp only [List.mem_singleton] at hb
    subst hb
    exact ⟨by simp [CW.new], by simp [CW.new, Nat.beq_refl]⟩

/-! ### Stores into an owned row -/
theorem flatten_set {γ : Type} (s : Nat) (c' : List γ) : ∀ (es : List (List γ)) (i : Nat), (∀ c ∈ es, c.length = s) → i < es.length → c'.length = s →
    (es.set i c').flatten = es.flatten.take (i * s) ++ c' ++ es.flatten.drop (i * s + s)
  | [], i, _, hi, _ => by simp at hi
  | e :: es, 0, hl, _, hc => by
    have he : e.length = s := hl e (by simp)
    simp [List.drop_append, he]
  | e :: es, i + 1, hl, hi, hc => by
    have he : e.length = s := hl e (by simp)
    have ih := flatten_set s c' es i (fun c hc => hl c (by simp [hc])) (by simpa using hi) hc
    simp only [List.set_cons_succ, List.flatten_cons, ih, Nat.add_mul, Nat.one_mul]
    rw [List.take_append, List.drop_append]
    have e1 : e.take (i * s + s) = e := List.take_of_length_le (by omega)
    have e2 : e.drop (i * s + s + s) = [] := List.drop_eq_nil_of_le (by omega)
    rw [e1, e2, he, show i * s + s - s = i * s by omega, show i * s + s + s - s = i * s + s by omega]
    simp
/-- What an owned row is when the cells of one element have been written anew. -/
theorem set_own {es : List (List Value)} {Ss : List (List Nat)} {S : List Nat} {i : Nat} {T' : List Nat} {c' : List Value} {x' : α} (J : List Nat) (ho : OwnRow W.w (AK W K) S v xs es Ss) (hnS : S.Nodup) (hbS : ∀ b ∈ S, b < W.w.heap.size ∧ W.c b = k)
    {w' : World} (hi : i < xs.length) (hx : own W.w (AK W K) T' c' x') (hn : T'.Nodup) (hb : ∀ b ∈ T', b < W.w.heap.size ∧ W.c b ∈ J) (hj : k ∉ J) (hd : disj K (k :: J) = true)
    (hsz : w'.heap.size = W.w.heap.size) (hos : w'.os = W.w.os ∧ w'.tape = W.w.tape ∧ w'.output = W.w.output) (hoth : ∀ b, v.ownBlock ≠ some b → w'.heap[b]? = W.w.heap[b]?) (hrow : w'.ownsRow 0 (ty α) (sz α) v xs.length (es.set i c').flatten) :
    ∃ W', W'.w = w' ∧ Le (k :: J) W W' ∧ Ow W' k K [v] (xs.set i x') := by
  have hvk : ∀ b, v.ownBlock = some b → b ∈ S := fun b hb => by rw [ho.S, hb]; simp
  have hSs : ∀ b ∈ Ss.flatten, b ∈ S := fun b hb => by rw [ho.S]; exact List.mem_append_right _ hb
  let W' : CW := ⟨w', fun b => if b ∈ T' then k else W.c b⟩
  have hle : Le (k :: J) W W' := ⟨hos.1, hos.2.1, hos.2.2, Nat.le_of_eq hsz.symm, fun b hlt hc => by
    simp only [List.mem_cons, not_or] at hc
    exact ⟨hoth b (fun e => hc.1 (hbS b (hvk b e)).2), if_neg (fun hm => hc.2 (hb b hm).2)⟩⟩
  have hA : ∀ b, AK W K b → w'.heap[b]? = W.w.heap[b]? ∧ AK W' K b := fun b hb => AK.up hle hd hb
  have hTne : ∀ b ∈ T', b ∉ S := fun b h1 h2 => hj (by rw [← (hbS b h2).2]; exact (hb b h1).2)
  have hnS' := hnS
  rw [ho.S, List.nodup_append] at hnS'
  refine ⟨W', rfl, hle, v.ownBlock.toList ++ (Ss.set i T').flatten, ⟨v, es.set i c', Ss.set i T', rfl, ?_, rfl, by simp [ho.elen], by simp [ho.slen], fun j cs x T h1 h2 h3 => ?_⟩, ?_, fun b hb' => ?_⟩
  · rw [List.length_set]; exact hrow
  · by_cases e : i = j
    · subst e
      have l1 : i < es.length := by rw [ho.elen]; exact hi
      have l3 : i < Ss.length := by rw [ho.slen]; exact hi
      rw [List.getElem?_set_self l1] at h1
      rw [List.getElem?_set_self hi] at h2
      rw [List.getElem?_set_self l3] at h3
      cases h1; cases h2; cases h3
      exact own_mono (fun b hb => (hA b hb).2) (own_keep (fun b hb => (hA b hb).1) (fun b hb' => hoth b (fun e => hTne b hb' (hvk b e))) hx)
    · rw [List.getElem?_set_ne e] at h1 h2 h3
      refine own_mono (fun b hb => (hA b hb).2) (own_keep (fun b hb => (hA b hb).1) (fun b hb' => hoth b (fun e => ?_)) (ho.at_ j cs x T h1 h2 h3))
      exact hnS'.2.2 b (by rw [e]; simp) b (List.mem_flatten.2 ⟨T, List.mem_of_getElem? h3, hb'⟩) rfl
  · rw [List.nodup_append]
    have hset : ∀ (Ss : List (List Nat)) (i : Nat), Ss.flatten.Nodup → (∀ b ∈ Ss.flatten, b ∈ S) → (Ss.set i T').flatten.Nodup := by
      intro Ss
      induction Ss with
      | nil => intro i h _; simp
      | cons a l ih =>
        intro i h hs
        rw [List.flatten_cons, List.nodup_append] at h
        cases i with
        | zero =>
          simp only [List.set_cons_zero, List.flatten_cons]
          rw [List.nodup_append]
          exact ⟨hn, h.2.1, fun x hx y hy e => hTne x hx (by rw [e]; exact hs y (List.mem_append_right _ hy))⟩
        | succ i =>
          simp only [List.set_cons_succ, List.flatten_cons]
          rw [List.nodup_append]
          refine ⟨h.1, ih i h.2.1 (fun b hb => hs b (List.mem_append_right _ hb)), fun x hxa y hy e => ?_⟩
          obtain ⟨U, hU, hyU⟩ := List.mem_flatten.1 hy
          rcases List.mem_or_eq_of_mem_set hU with hm | rfl
          · exact h.2.2 x hxa y (List.mem_flatten.2 ⟨U, hm, hyU⟩) e
          · exact hTne y hyU (by rw [← e]; exact hs x (List.mem_append_left _ hxa))
    refine ⟨hnS'.1, hset Ss i hnS'.2.1 hSs, fun x hx y hy e => ?_⟩
    obtain ⟨U, hU, hyU⟩ := List.mem_flatten.1 hy
    have hxS : x ∈ S := by rw [ho.S]; exact List.mem_append_left _ hx
    rcases List.mem_or_eq_of_mem_set hU with hm | rfl
    · exact hnS'.2.2 x hx y (List.mem_flatten.2 ⟨U, hm, hyU⟩) e
    · exact hTne y hyU (by rw [← e]; exact hxS)
  · have hold : b ∈ S → b < w'.heap.size ∧ W'.c b = k := fun h => ⟨by rw [hsz]; exact (hbS b h).1, by
      show (if b ∈ T' then k else W.c b) = k
      rw [if_neg (fun hm => hTne b hm h)]
      exact (hbS b h).2⟩
    rcases List.mem_append.1 hb' with h1 | h1
    · exact hold (by rw [ho.S]; exact List.mem_append_left _ h1)
    · obtain ⟨U, hU, hbU⟩ := List.mem_flatten.1 h1
      rcases List.mem_or_eq_of_mem_set hU with hm | rfl
      · exact hold (hSs b (List.mem_flatten.2 ⟨U, hm, hbU⟩))
      · exact ⟨by rw [hsz]; exact (hb b hbU).1, if_pos hbU⟩

/-- The cells c' written over element i of an owned row. -/
theorem row_write {S : List Nat} {es : List (List Value)} {Ss : List (List Nat)} {i : Nat} {c' : List Value} (ho : OwnRow W.w (AK W K) S v xs es Ss) (hi : i < xs.length) (hc : c'.length = sz α) (h1 : ∀ u ∈ c', u.oneCell' = true) :
    ∃ w', (storeCells ((slA v).add (i * sz α)) c').run P W.w = .ok () w' ∧ w'.ownsRow 0 (ty α) (sz α) v xs.length (es.set i c').flatten ∧ w'.heap.size = W.w.heap.size ∧ (w'.os = W.w.os ∧ w'.tape = W.w.tape ∧ w'.output = W.w.output) ∧ (∀ b, v.ownBlock ≠ some b → w'.heap[b]? = W.w.heap[b]?) := by
  rcases ho.row.2 with ⟨_, hn⟩ | ⟨g, cap, cur, rfl, _, hg, hnc, hcm, hcs, htake⟩
  · omega
  · have hbound : i * sz α + sz α ≤ xs.length * sz α := by rw [← Nat.succ_mul]; exact Nat.mul_le_mul_right _ hi
    have hcap : xs.length * sz α ≤ cap * sz α := Nat.mul_le_mul_right _ hnc
    have hr := run_storeCells_at P g (i * sz α) (ty α) c' 0 cur W.w hg (by omega) h1
    simp only [Nat.add_zero] at hr
    have hfs := flatten_set (sz α) c' es i ho.len (by rw [ho.elen]; exact hi) hc
    have hfl : (es.set i c').flatten.length = xs.length * sz α := by
      rw [hfs]
      simp only [List.length_append, List.length_take, List.length_drop, ho.row.1, hc]
      omega
    refine ⟨_, by rw [slA, Addr.add_lit, Nat.zero_add]; exact hr, ⟨hfl, .inr ⟨g, cap, _, rfl, Nat.zero_le _, setRow_heap W.w g cur _ _ _ hg, hnc, hcm, ?_, ?_⟩⟩, by simp [World.setRow], ⟨rfl, rfl, rfl⟩, fun b hb => setRow_other W.w g b _ (fun e => hb (by simp [Value.ownBlock, e]))⟩
    · simp only [List.size_toArray, List.length_append, List.length_take, List.length_drop, Array.length_toList]
      omega
    · rw [hfs, ← htake, hc]
      have l1 : (cur.toList.take (i * sz α)).length = i * sz α := by simp; omega
      rw [List.take_append, List.take_append]
      simp only [List.length_append, l1, hc]
      rw [List.take_of_length_le (show (cur.toList.take (i * sz α)).length ≤ xs.length * sz α by omega), List.take_of_length_le (show c'.length ≤ xs.length * sz α - i * sz α by omega)]
      rw [List.take_take, Nat.min_eq_left (by omega), List.drop_take]

theorem h_add0 (q : Addr) : q.add 0 = q := by simp [Addr.add]
/-- A store of a whole element (as cells); what it leads to stays shared. -/
theorem T.stS [Atm α] [hI : Inf P t s b z] {i : Int} {cs : List Value} (h : Ow W k K [v] xs) (hr : Rd W K' cs x) (hm : siM xs i x = some ys) (hp : ev ρ p = ptr ((slA v).add (i.toNat * sz α))) (hq : ev ρ q = u) (hu : u.cells.toList = cs)
    (hs : s = sz α := by rfl) (hK : (subL K' K && disj K [k]) = true := by rfl) :
    Tr P ρ W.w (.store t p q) ty' (fun _ w' => ∃ W', W'.w = w' ∧ Le [k] W W' ∧ Ow W' k K [v] ys) := Tr.of_unit fun o h1 _ => by
  simp only [Bool.and_eq_true] at hK
  unfold siM at hm
  split at hm
  case isFalse => cases hm
  rename_i hi
  simp only [Option.some.injEq] at hm
  subst hm
  obtain ⟨j, hj, _, hjs, _⟩ := hI.get
  obtain ⟨S, ⟨v0, es, Ss, e0, ho⟩, hnS, hbS⟩ := h
  simp only [List.cons.injEq, and_true] at e0
  subst e0
  have hl : cs.length = sz α := rd_len hr
  obtain ⟨w', hrun, hrow, hsz, hos, hoth⟩ := row_write (P := P) ho (i := i.toNat) (by omega) hl (rd_one hr)
  obtain ⟨W', e, hle, how⟩ := set_own (T' := []) (c' := cs) (x' := x) [] ho hnS hbS (i := i.toNat) (by omega) (Atm.own (hr.sub hK.1)) (by simp) (fun b hb => by cases hb) (by simp) hK.2 hsz hos hoth hrow
  refine ⟨w', ?_, W', e, hle, how⟩
  have hcs : u.cells.size = s := by rw [← Array.length_toList, hu, hl, hs]
  simp only [execOp, h1, hp, hq, Instr.storeAt, Instr.sureAddr, Sem.run_bind, Sem.run_pure, Result.andThen_ok, storeVar, sizeOf, typeInfo, run_program, hj, hjs, Sem.run_ite]
  rw [if_neg (by simp [hcs]), hu, hrun]
  rfl
/-- A store of a whole element, with all that it owns (the colours J). -/
theorem T.stO [hI : Inf P t s b z] {i : Int} {cs : List Value} {J : List Nat} (h : Ow W k K [v] xs) (hr : OwS W J K' cs x) (hm : siM xs i x = some ys) (hp : ev ρ p = ptr ((slA v).add (i.toNat * sz α))) (hq : ev ρ q = u) (hu : u.cells.toList = cs)
    (hs : s = sz α := by rfl) (hK : (subL K' K && disj K (k :: J) && disj [k] J) = true := by rfl) :
    Tr P ρ W.w (.store t p q) ty' (fun _ w' => ∃ W', W'.w = w' ∧ Le (k :: J) W W' ∧ Ow W' k K [v] ys) := Tr.of_unit fun o h1 _ => by
  simp only [Bool.and_eq_true] at hK
  unfold siM at hm
  split at hm
  case isFalse => cases hm
  rename_i hi
  simp only [Option.some.injEq] at hm
  subst hm
  obtain ⟨jj, hj, _, hjs, _⟩ := hI.get
  have hone := hr.one
  have hl : cs.length = sz α := hr.len
  obtain ⟨T0, to, tn, tb⟩ := hr
  obtain ⟨S, ⟨v0, es, Ss, e0, ho⟩, hnS, hbS⟩ := h
  simp only [List.cons.injEq, and_true] at e0
  subst e0
  obtain ⟨w', hrun, hrow, hsz, hos, hoth⟩ := row_write (P := P) ho (i := i.toNat) (by omega) hl hone
  obtain ⟨W', e, hle, how⟩ := set_own (T' := T0) (c' := cs) (x' := x) J ho hnS hbS (i := i.toNat) (by omega) (own_mono (fun b hb => ⟨hb.1, subL_mem hK.1.1 hb.2⟩) to) tn tb (disj_not hK.2 (by simp)) hK.1.2 hsz hos hoth hrow
  refine ⟨w', ?_, W', e, hle, how⟩
  have hcs : u.cells.size = s := by rw [← Array.length_toList, hu, hl, hs]
  simp only [execOp, h1, hp, hq, Instr.storeAt, Instr.sureAddr, Sem.run_bind, Sem.run_pure, Result.andThen_ok, storeVar, sizeOf, typeInfo, run_program, hj, hjs, Sem.run_ite]
  rw [if_neg (by simp [hcs]), hu, hrun]
  rfl

/-! ### A callee's colours, and its caller's -/
/-- As the callee sees them: what it is lent (colours K) is shared; what it is given (J) bears 2, 3 ..; all else is not its own. -/
def vc (K J : List Nat) (c : Nat) : Nat := bif K.any (Nat.beq c) then 0 else match J.findIdx? (Nat.beq c) with
  | some i => i + 2
  | none => 1
def CW.view (W : CW) (K J : List Nat) : CW := ⟨W.w, fun b => vc K J (W.c b)⟩
def CW.back (W Wf : CW) (K J : List Nat) (f : Nat → Nat) : CW := ⟨Wf.w, fun b => if b < W.w.heap.size ∧ Wf.c b = vc K J (W.c b) then W.c b else f (Wf.c b)⟩
section back
variable {J : List Nat} {Wf : CW} {f : Nat → Nat} {M : List Nat} {c : Nat}
theorem vc_K (h : c ∈ K) : vc K J c = 0 := by
  have : K.any (Nat.beq c) = true := List.any_eq_true.2 ⟨c, h, Nat.beq_refl c⟩
  simp [vc, this]
theorem vc_zero (h : vc K J c = 0) : c ∈ K := by
  unfold vc at h
  cases hb : K.any (Nat.beq c) with
  | true => obtain ⟨x, hx, e⟩ := List.any_eq_true.1 hb; rw [Nat.eq_of_beq_eq_true e]; exact hx
  | false =>
    rw [hb] at h
    simp only [cond_false] at h
    split at h <;> omega
theorem Rd.view (h : Rd W K cs x) (J : List Nat) : Rd (W.view K J) [0] cs x := rd_mono (fun b hb => ⟨hb.1, by simp [CW.view, vc_K hb.2]⟩) h
theorem At.view {p : Addr} (h : At W K p x) (J : List Nat) : At (W.view K J) [0] p x := ⟨⟨h.1.1, by simp [CW.view, vc_K h.1.2]⟩, let ⟨cs, h1, h2⟩ := h.2; ⟨cs, h1, Rd.view h2 J⟩⟩
theorem Le.back (l : Le L (W.view K []) Wf) (hL : disj [0, 1] L = true) (f : Nat → Nat) : Le [] W (W.back Wf K [] f) :=
  ⟨l.os, l.tape, l.output, l.size, fun b hb _ => by
    have hv : (W.view K []).c b ∉ L := by
      have h2 : vc K [] (W.c b) = 0 ∨ vc K [] (W.c b) = 1 := by
        unfold vc
        cases K.any (Nat.beq (W.c b)) <;> simp
      rcases h2 with h2 | h2
      · show vc K [] (W.c b) ∉ L
        rw [h2]; exact disj_not hL (by simp)
      · show vc K [] (W.c b) ∉ L
        rw [h2]; exact disj_not hL (by simp)
    obtain ⟨h1, h2⟩ := l.keep b hb hv
    exact ⟨h1, if_pos ⟨hb, h2⟩⟩⟩
theorem AK.back {K1 K2 : List Nat} (hK1 : ∀ c ∈ K1, f c ∈ K2) (hK2 : ∀ c, vc K J c ∈ K1 → c ∈ K2) {b : Nat} (h : AK Wf K1 b) : AK (W.back Wf K J f) K2 b := by
  refine ⟨h.1, ?_⟩
  show (if b < W.w.heap.size ∧ Wf.c b = vc K J (W.c b) then W.c b else f (Wf.c b)) ∈ K2
  split
  · rename_i hh
    exact hK2 _ (by rw [← hh.2]; exact h.2)
  · exact hK1 _ h.2
theorem Rd.back (h : Rd Wf [0] cs x) (hf : f 0 = 0) : Rd (W.back Wf K J f) (0 :: K) cs x :=
  rd_mono (fun b hb => AK.back (K1 := [0]) (fun c hc => by simp at hc; simp [hc, hf]) (fun c hc => by simp at hc; exact List.mem_cons_of_mem _ (vc_zero hc)) hb) h
theorem vc_two (c : Nat) : vc K [] c = 0 ∨ vc K [] c = 1 := by
  unfold vc
  cases K.any (Nat.beq c) <;> simp
/-- f: the callee's colours J become k. -/
theorem OwS.back {J : List Nat} (h : OwS Wf J [] cs x) (hf : ∀ c ∈ J, f c = k) (hj : disj [0, 1] J = true := by rfl) : Ow (W.back Wf K [] f) k [] cs x := by
  obtain ⟨S, ho, hn, hb⟩ := h
  refine ⟨S, own_mono (fun b hb => by exact absurd hb.2 (by simp)) ho, hn, fun b hb' => ⟨(hb b hb').1, ?_⟩⟩
  show (if b < W.w.heap.size ∧ Wf.c b = vc K [] (W.c b) then W.c b else f (Wf.c b)) = k
  rw [if_neg, hf _ (hb b hb').2]
  rintro ⟨_, e⟩
  refine disj_not hj (a := Wf.c b) ?_ (hb b hb').2
  rcases vc_two (K := K) (W.c b) with h2 | h2 <;> rw [e, h2] <;> simp
theorem OwS.backS {J : List Nat} (h : OwS Wf J [0] cs x) (hf : ∀ c ∈ J, f c = k) (h0 : f 0 = 0) (hj : disj [0, 1] J = true := by rfl) : Ow (W.back Wf K [] f) k (0 :: K) cs x := by
  obtain ⟨S, ho, hn, hb⟩ := h
  refine ⟨S, own_mono (fun b hb => AK.back (K1 := [0]) (fun c hc => by simp at hc; simp [hc, h0]) (fun c hc => by simp at hc; exact List.mem_cons_of_mem _ (vc_zero hc)) hb) ho, hn, fun b hb' => ⟨(hb b hb').1, ?_⟩⟩
  show (if b < W.w.heap.size ∧ Wf.c b = vc K [] (W.c b) then W.c b else f (Wf.c b)) = k
  rw [if_neg, hf _ (hb b hb').2]
  rintro ⟨_, e⟩
  refine disj_not hj (a := Wf.c b) ?_ (hb b hb').2
  rcases vc_two (K := K) (W.c b) with h2 | h2 <;> rw [e, h2] <;> simp
end back
/-- What a call leaves: a world to which W leads, in which R holds of what it hands back. -/
def Res (W : CW) (L : List Nat) (R : CW → Value → Prop) (v : Value) (w' : World) : Prop := ∃ W', W'.w = w' ∧ Le L W W' ∧ R W' v
theorem Res.fin {Wf : CW} {R : CW → Value → Prop} (l : Le L (W.view K []) Wf) (f : Nat → Nat) (h : R (W.back Wf K [] f) v) (hL : disj [0, 1] L = true := by rfl) : Res W [] R v Wf.w := ⟨W.back Wf K [] f, rfl, l.back hL f, h⟩
end
end Go.Sx
