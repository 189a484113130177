/- Plain laws of merges of texts: both sides merge alike. Conditions: each law's own premises. -/
import Derived.Test.YtjdljoplpcakpaaXQf
namespace Go.Sx
open Go
/-- A loop with a state that may stop. -/
theorem loop_foldM {R α σ : Type} {xs : List α} {step : σ → α → Option σ} {r0 : Option R} (Inv : Nat → σ → Prop) {f : Nat → σ → Int → Option R} {Z : σ → Option R} {s0 : σ}
    (hs : ∀ m (i : Nat) x s, xs[i]? = some x → Inv i s → (f (m + 1) s (i : Int) = match step s x with | some s' => f m s' ((i + 1 : Nat) : Int) | none => r0) ∧ ∀ s', step s x = some s' → Inv (i + 1) s')
    (he : ∀ m s, Inv xs.length s → f (m + 1) s (xs.length : Int) = Z s) {m : Nat} (hm : xs.length < m) (h0 : Inv 0 s0) :
    f m s0 0 = (match xs.foldlM step s0 with | some s => Z s | none => r0) ∧ ∀ s, xs.foldlM step s0 = some s → Inv xs.length s := by
  have key : ∀ k i m s, i + k = xs.length → k < m → Inv i s → f m s (i : Int) = (match (xs.drop i).foldlM step s with | some s => Z s | none => r0) ∧ ∀ s', (xs.drop i).foldlM step s = some s' → Inv xs.length s' := by
    intro k
    induction k with
    | zero =>
      intro i m s hi hm hI
      obtain ⟨m, rfl⟩ : ∃ q, m = q + 1 := ⟨m - 1, by omega⟩
      have hii : i = xs.length := by omega
      subst hii
      rw [he m s hI, List.drop_length]
      exact ⟨rfl, fun s' h => by have : s = s' := by simpa using h
                                 rw [← this]; exact hI⟩
    | succ k ih =>
      intro i m s hi hm hI
      obtain ⟨m, rfl⟩ : ∃ q, m = q + 1 := ⟨m - 1, by omega⟩
      have hlt : i < xs.length := by omega
      obtain ⟨h1, h2⟩ := hs m i xs[i] s (List.getElem?_eq_getElem hlt) hI
      rw [h1, List.drop_eq_getElem_cons hlt, List.foldlM_cons]
      cases hst : step s xs[i] with
      | none => exact ⟨rfl, fun s' h => by simp at h⟩
      | some s1 =>
        obtain ⟨h3, h4⟩ := ih (i + 1) m s1 (by omega) (by omega) (h2 s1 hst)
        exact ⟨h3, h4⟩
  have := key xs.length 0 m s0 (by omega) hm h0
  simpa using this
/-- A loop that looks for the first element of which p holds. -/
theorem loop_find {R α : Type} {xs : List α} {p : α → Bool} {r : α → Option R} {Z : Option R} {f : Nat → Int → Option R}
    (hs : ∀ m (i : Nat) x, xs[i]? = some x → f (m + 1) (i : Int) = bif p x then r x else f m ((i + 1 : Nat) : Int)) (he : ∀ m, f (m + 1) (xs.length : Int) = Z) {m : Nat} (hm : xs.length < m) :
    f m 0 = match xs.find? p with | some x => r x | none => Z := by
  have key : ∀ k i m, i + k = xs.length → k < m → f m (i : Int) = match (xs.drop i).find? p with | some x => r x | none => Z := by
    intro k
    induction k with
    | zero =>
      intro i m hi hm
      obtain ⟨m, rfl⟩ : ∃ q, m = q + 1 := ⟨m - 1, by omega⟩
      rw [show i = xs.length by omega, he, List.drop_length]
      rfl
    | succ k ih =>
      intro i m hi hm
      obtain ⟨m, rfl⟩ : ∃ q, m = q + 1 := ⟨m - 1, by omega⟩
      have hlt : i < xs.length := by omega
      rw [hs m i xs[i] (List.getElem?_eq_getElem hlt), List.drop_eq_getElem_cons hlt, List.find?_cons]
      cases p xs[i] with
      | true => rfl
      | false => exact ih (i + 1) m (by omega) (by omega)
  have := key xs.length 0 m (by omega) hm
  simpa using this
theorem slM_of {α : Type} {xs : List α} {l h : Int} (h0 : 0 ≤ l) (h1 : l ≤ h) (h2 : h ≤ xs.length) : slM xs l h = some ((xs.take h.toNat).drop l.toNat) := by
  unfold slM
  rw [if_pos ⟨h0, h1, h2⟩]
end Go.Sx
namespace Go.Vm
open Go Go.Sx
set_option linter.unusedSimpArgs false
set_option linter.unusedVariables false

def lnP (l : List Str) : Part := ⟨false, l, [], [], []⟩
/-- What two sides made of a piece. -/
def partP (o a b : List Str) : Part := bif a == o || a == b then lnP b else bif b == o then lnP a else ⟨true, [], o, a, b⟩
/-- A part put behind others. -/
def putP (out : List Part) (p : Part) : List Part :=
  bif !p.Clash && p.Lines.length == 0 then out else
  match out[out.length - 1]? with
  | some q => bif !p.Clash && !q.Clash then out.set (out.length - 1) ⟨q.Clash, q.Lines ++ p.Lines, q.Old, q.One, q.Two⟩ else out ++ [p]
  | none => out ++ [p]
/-- There are n parts at most, and of so many lines. -/
def PB (n : Nat) (out : List Part) : Prop := out.length ≤ n ∧ ∀ q ∈ out, q.Lines.length ≤ 1000 * n
theorem PB.mono {n m : Nat} {out : List Part} (h : PB n out) (hm : n ≤ m) : PB m out := ⟨Nat.le_trans h.1 hm, fun q hq => Nat.le_trans (h.2 q hq) (Nat.mul_le_mul_left _ hm)⟩
theorem putP_PB {n : Nat} {out : List Part} {p : Part} (h : PB n out) (hp : p.Lines.length ≤ 1000) : PB (n + 1) (putP out p) := by
  have happ : PB (n + 1) (out ++ [p]) := ⟨by simp; exact h.1, fun q hq => by
    rcases List.mem_append.1 hq with h1 | h1
    · have := h.2 q h1; omega
    · rw [List.mem_singleton] at h1; rw [h1]; omega⟩
  unfold putP
  cases (!p.Clash && p.Lines.length == 0) with
  | true => exact h.mono (by omega)
  | false =>
    rw [cond_false]
    split
    · rename_i q hq
      cases (!p.Clash && !q.Clash) with
      | false => exact happ
      | true =>
        rw [cond_true]
        refine ⟨by rw [List.length_set]; have := h.1; omega, fun r hr => ?_⟩
        rcases List.mem_or_eq_of_mem_set hr with h1 | h1
        · have := h.2 r h1; omega
        · rw [h1]
          have := h.2 q (List.mem_of_getElem? hq)
          simp only [List.length_append]
          omega
    · exact happ
theorem partP_len {o a b : List Str} (ha : a.length ≤ 1000) (hb : b.length ≤ 1000) : (partP o a b).Lines.length ≤ 1000 := by
  unfold partP lnP
  cases (a == o || a == b)
  · cases b == o
    · simp
    · exact ha
  · exact hb
theorem apL {xs ys : List Str} (h : xs.length ≤ 4000000) (h' : ys.length ≤ 1000) : apM xs ys = some (xs ++ ys) := apM_of (by simp [lim]; omega)
theorem l3Part_eq {o a b : List Str} (ho : o.length ≤ 1000) (ha : a.length ≤ 1000) (hb : b.length ≤ 1000) : spec_l3Part o a b = some (partP o a b) := by
  unfold spec_l3Part partP lnP
  simp only [jn, l1Same_eq (show a.length ≤ maxi by unfold maxi; omega), l1Same_eq (show b.length ≤ maxi by unfold maxi; omega), Option.bind_some, apN (show o.length ≤ 1048576 by omega), apN (show a.length ≤ 1048576 by omega), apN (show b.length ≤ 1048576 by omega)]
  cases a == o <;> cases a == b <;> cases b == o <;> rfl
theorem last_ix {n : Nat} (h : n ≤ 4000000) (h0 : 0 < n) : w64 ((n : Int) - 1) = ((n - 1 : Nat) : Int) := by rw [w64_id (by omega) (by omega)]; omega
theorem set_self {α : Type} {xs : List α} {i : Nat} {x y : α} (h : i < xs.length) : (xs ++ [x]).set xs.length y = xs ++ [y] := by simp
theorem l3Put_eq {n : Nat} {out : List Part} {p : Part} (h : PB n out) (hn : n ≤ 4000) (hp : p.Lines.length ≤ 1000) : spec_l3Put out p = some (putP out p) := by
  have hl := h.1
  unfold spec_l3Put putP
  have hz : (((p.Lines.length : Int)) == (0 : Int)) = (p.Lines.length == 0) := by
    have : ∀ b c : Bool, (b = true ↔ c = true) → b = c := by decide
    apply this; simp
  simp only [jn, hz, show (⟨p.Clash, p.Lines, p.Old, p.One, p.Two⟩ : Part) = p from rfl]
  have happ : apM out [p] = some (out ++ [p]) := apM_of (by simp [lim]; omega)
  cases hc : p.Clash with
  | true =>
    simp only [Bool.not_true, Bool.false_and, cond_false, happ, Option.bind_some]
    by_cases h0 : 0 < out.length
    · rw [decide_eq_true (by omega), cond_true, List.getElem?_eq_getElem (by omega)]
    · rw [decide_eq_false (by omega), cond_false, List.getElem?_eq_none (by omega)]
  | false =>
    simp only [Bool.not_false, Bool.true_and, cond_true]
    cases hz2 : (p.Lines.length == 0) with
    | true => rfl
    | false =>
      simp only [cond_false]
      by_cases h0 : 0 < out.length
      · obtain ⟨q, hq⟩ : ∃ q, out[out.length - 1]? = some q := ⟨_, List.getElem?_eq_getElem (by omega)⟩
        have hql := h.2 q (List.mem_of_getElem? hq)
        rw [decide_eq_true (by omega), cond_true, last_ix (by omega) h0, gi_of hq, Option.bind_some, hq]
        cases hqc : q.Clash with
        | true => simp [happ, hqc]
        | false =>
          simp only [hqc, Bool.not_false, cond_true, Option.bind_some]
          rw [apL (by omega) hp, Option.bind_some, siM_of (by omega), Option.bind_some]
      · rw [decide_eq_false (by omega), cond_false, List.getElem?_eq_none (by omega), happ]
        rfl
theorem c1_eq {n : Nat} {out : List Part} {l : List Str} (h : PB n out) (hn : n ≤ 4000) (hp : l.length ≤ 1000) : impl_mergeOf_c1 l out = some (putP out (lnP l)) := by
  have hl := h.1
  unfold impl_mergeOf_c1 putP lnP
  have hz : (((l.length : Int)) == (0 : Int)) = (l.length == 0) := by
    have : ∀ b c : Bool, (b = true ↔ c = true) → b = c := by decide
    apply this; simp
  simp only [jn, hz, Bool.not_false, Bool.true_and]
  cases hz2 : (l.length == 0) with
  | true => rfl
  | false =>
    simp only [cond_false]
    have happ : apM out [(⟨false, [], [], [], []⟩ : Part)] = some (out ++ [⟨false, [], [], [], []⟩]) := apM_of (by simp [lim]; omega)
    have hat : (out ++ [(⟨false, [], [], [], []⟩ : Part)])[out.length]? = some ⟨false, [], [], [], []⟩ := by simp
    by_cases h0 : 0 < out.length
    · obtain ⟨q, hq⟩ : ∃ q, out[out.length - 1]? = some q := ⟨_, List.getElem?_eq_getElem (by omega)⟩
      have hql := h.2 q (List.mem_of_getElem? hq)
      rw [last_ix (by omega) h0, decide_eq_false (by omega), cond_false, gi_of hq, Option.bind_some, hq]
      cases hqc : q.Clash with
      | true =>
        have e1 : w64 (((out.length - 1 : Nat) : Int) + 1) = (out.length : Int) := by rw [w64_id (by omega) (by omega)]; omega
        rw [cond_true, happ, Option.bind_some, e1, gi_of hat, Option.bind_some, apL (by simp) hp, Option.bind_some, Option.bind_some, siM_of (by simp), Option.bind_some]
        simp [hqc]
      | false =>
        rw [cond_false, Option.bind_some, apL (by omega) hp, Option.bind_some, Option.bind_some, siM_of (by omega), Option.bind_some]
        simp [hqc]
    · have e0 : w64 ((out.length : Int) - 1) = -1 := by rw [w64_id (by omega) (by omega)]; omega
      have e1 : w64 ((-1 : Int) + 1) = (out.length : Int) := by rw [w64_id (by omega) (by omega)]; omega
      rw [e0, List.getElem?_eq_none (by omega)]
      rw [show decide ((-1 : Int) < 0) = true by decide, cond_true, happ, Option.bind_some, e1, gi_of hat, Option.bind_some, apL (by simp) hp, Option.bind_some, Option.bind_some, siM_of (by simp), Option.bind_some]
      simp
theorem putP_clash (out : List Part) (o a b : List Str) : putP out ⟨true, [], o, a, b⟩ = out ++ [⟨true, [], o, a, b⟩] := by
  unfold putP
  simp only [Bool.not_true, Bool.false_and, cond_false]
  split <;> rfl

def cutI {α : Type} (xs : List α) (l h : Int) : List α := (xs.take h.toNat).drop l.toNat
theorem cutI_len {α : Type} (xs : List α) (l h : Int) : (cutI xs l h).length ≤ xs.length := by unfold cutI; simp; omega
/-- One step of a merge: at line i, which both sides have at x and y. -/
def mergeS (o a b : List Str) (i x y io ia ib : Int) (out : List Part) : List Part :=
  match o[i.toNat]? with
  | some s => putP (putP out (partP (cutI o io i) (cutI a ia x) (cutI b ib y))) (lnP [s])
  | none => putP out (partP (cutI o io i) (cutI a ia x) (cutI b ib y))
def mergeG (o a b : List Str) : Int → List Int → List Int → Int → Int → Int → List Part → List Part
  | i, x :: ma, y :: mb, io, ia, ib, out =>
    bif decide (x < 0) || decide (y < 0) then mergeG o a b (i + 1) ma mb io ia ib out
    else mergeG o a b (i + 1) ma mb (i + 1) (x + 1) (y + 1) (mergeS o a b i x y io ia ib out)
  | _, [], _, _, _, _, out => out
  | _, _ :: _, [], _, _, _, out => out
def mergeF (o a b : List Str) : List Part := mergeG o a b 0 (mt2 o a ++ [(a.length : Int)]) (mt2 o b ++ [(b.length : Int)]) 0 0 0 []
theorem mergeS_PB {o a b : List Str} (ha : a.length ≤ 1000) (hb : b.length ≤ 1000) {i x y io ia ib : Int} {n : Nat} {out : List Part} (h : PB n out) : PB (n + 2) (mergeS o a b i x y io ia ib out) := by
  have h1 := putP_PB h (partP_len (o := cutI o io i) (Nat.le_trans (cutI_len a ia x) ha) (Nat.le_trans (cutI_len b ib y) hb))
  unfold mergeS
  split
  · exact putP_PB h1 (by simp [lnP])
  · exact h1.mono (by omega)
theorem mergeG_PB {o a b : List Str} (ha : a.length ≤ 1000) (hb : b.length ≤ 1000) : ∀ (ma mb : List Int) (i io ia ib : Int) (n : Nat) (out : List Part), PB n out → PB (n + 2 * ma.length) (mergeG o a b i ma mb io ia ib out)
  | [], mb, i, io, ia, ib, n, out, h => by rw [mergeG.eq_def]; exact h.mono (by omega)
  | x :: ma, [], i, io, ia, ib, n, out, h => by rw [mergeG.eq_def]; exact h.mono (by omega)
  | x :: ma, y :: mb, i, io, ia, ib, n, out, h => by
    rw [mergeG]
    cases (decide (x < 0) || decide (y < 0)) with
    | true => exact (mergeG_PB ha hb ma mb _ _ _ _ n out h).mono (by simp; omega)
    | false => exact (mergeG_PB ha hb ma mb _ _ _ _ (n + 2) _ (mergeS_PB ha hb h)).mono (by simp; omega)
theorem drop_ix {l : List Int} {i : Nat} {x : Int} (h : l[i]? = some x) : l.drop i = x :: l.drop (i + 1) := by
  have hi := ix_of h
  rw [List.drop_eq_getElem_cons hi]
  rw [List.getElem?_eq_getElem hi] at h
  rw [Option.some.inj h]
theorem smerge_l1 {o a b : List Str} (ho : o.length ≤ 1000) (ha : a.length ≤ 1000) (hb : b.length ≤ 1000) {ma mb : List Int} (hla : ma.length = o.length + 1) (hlb : mb.length = o.length + 1) :
    ∀ (n i m : Nat) (io ia ib : Int) (out : List Part), i + n = o.length + 1 → n < m → Asc ((a.length : Int) + 1) ia (ma.drop i) → Asc ((b.length : Int) + 1) ib (mb.drop i) → 0 ≤ io → io ≤ i → 0 ≤ ia → 0 ≤ ib → PB (2 * i) out →
      spec_l3Of_l1 o a b ma mb (fun y45 _ _ _ _ => some y45) m out io ia ib (i : Int) = some (mergeG o a b i (ma.drop i) (mb.drop i) io ia ib out)
  | n, i, 0, _, _, _, _, _, hm, _, _, _, _, _, _, _ => by omega
  | 0, i, m + 1, io, ia, ib, out, hi, _, _, _, _, _, _, _, _ => by
    simp only [spec_l3Of_l1]
    rw [decide_eq_false (by omega), cond_false, List.drop_eq_nil_of_le (by omega), mergeG.eq_def]
  | n + 1, i, m + 1, io, ia, ib, out, hi, hm, hA, hB, h0, h1, h2, h3, hP => by
    obtain ⟨x, hx⟩ : ∃ x, ma[i]? = some x := ⟨_, List.getElem?_eq_getElem (by omega)⟩
    obtain ⟨y, hy⟩ : ∃ y, mb[i]? = some y := ⟨_, List.getElem?_eq_getElem (by omega)⟩
    rw [drop_ix hx] at hA ⊢
    rw [drop_ix hy] at hB ⊢
    have ei : w64 ((i : Int) + 1) = ((i + 1 : Nat) : Int) := by rw [w64_id (by omega) (by omega)]; omega
    have ei' : (i : Int) + 1 = ((i + 1 : Nat) : Int) := by omega
    rw [ei'] at ei
    have dn : decide ((-1 : Int) < 0) = true := rfl
    have hstay : ∀ (hA' : Asc ((a.length : Int) + 1) ia (ma.drop (i + 1))) (hB' : Asc ((b.length : Int) + 1) ib (mb.drop (i + 1))), spec_l3Of_l1 o a b ma mb (fun y45 _ _ _ _ => some y45) m out io ia ib ((i + 1 : Nat) : Int) = some (mergeG o a b ((i + 1 : Nat) : Int) (ma.drop (i + 1)) (mb.drop (i + 1)) io ia ib out) :=
      fun hA' hB' => smerge_l1 ho ha hb hla hlb n (i + 1) m io ia ib out (by omega) (by omega) hA' hB' h0 (by omega) h2 h3 (hP.mono (by omega))
    rw [mergeG]
    simp only [spec_l3Of_l1, jn, gi_of hx, gi_of hy, Option.bind_some, ei, ei', hla]
    rw [decide_eq_true (show (i : Int) < ((o.length + 1 : Nat) : Int) by omega), cond_true]
    rcases hA with ⟨rfl, hA⟩ | ⟨ha1, ha2, hA⟩
    · rcases hB with ⟨rfl, hB⟩ | ⟨hb1, hb2, hB⟩
      · simp only [dn, cond_true, Bool.true_or]; exact hstay hA hB
      · simp only [dn, cond_true, Bool.true_or]; exact hstay hA (hB.mono (by omega))
    rcases hB with ⟨rfl, hB⟩ | ⟨hb1, hb2, hB⟩
    · rw [decide_eq_false (show ¬ x < 0 by omega), cond_false]
      simp only [dn, cond_true, Bool.false_or]
      exact hstay (hA.mono (by omega)) hB
    rw [decide_eq_false (show ¬ x < 0 by omega), decide_eq_false (show ¬ y < 0 by omega)]
    simp only [cond_false, Bool.or_false]
    have ex : w64 (x + 1) = x + 1 := w64_id (by omega) (by omega)
    have ey : w64 (y + 1) = y + 1 := w64_id (by omega) (by omega)
    have c1 := cutI_len o io i
    have c2 := cutI_len a ia x
    have c3 := cutI_len b ib y
    have hP1 := putP_PB hP (partP_len (o := cutI o io i) (Nat.le_trans c2 ha) (Nat.le_trans c3 hb))
    have hS := mergeS_PB (o := o) ha hb (i := i) (x := x) (y := y) (io := io) (ia := ia) (ib := ib) hP
    have hfin := smerge_l1 ho ha hb hla hlb n (i + 1) m ((i + 1 : Nat) : Int) (x + 1) (y + 1) (mergeS o a b i x y io ia ib out) (by omega) (by omega) hA hB (by omega) (by omega) (by omega) (by omega) (hS.mono (by omega))
    rw [slM_of h0 h1 (by omega), Option.bind_some, slM_of h2 ha1 (by omega), Option.bind_some, slM_of h3 hb1 (by omega), Option.bind_some,
      show ((o.take ((i : Int)).toNat).drop io.toNat) = cutI o io i from rfl, show ((a.take x.toNat).drop ia.toNat) = cutI a ia x from rfl, show ((b.take y.toNat).drop ib.toNat) = cutI b ib y from rfl,
      l3Part_eq (by omega) (by omega) (by omega), Option.bind_some]
    rw [show (⟨(partP (cutI o io i) (cutI a ia x) (cutI b ib y)).Clash, (partP (cutI o io i) (cutI a ia x) (cutI b ib y)).Lines, (partP (cutI o io i) (cutI a ia x) (cutI b ib y)).Old, (partP (cutI o io i) (cutI a ia x) (cutI b ib y)).One, (partP (cutI o io i) (cutI a ia x) (cutI b ib y)).Two⟩ : Part) = partP (cutI o io i) (cutI a ia x) (cutI b ib y) from rfl,
      l3Put_eq hP (by omega) (partP_len (Nat.le_trans c2 ha) (Nat.le_trans c3 hb)), Option.bind_some]
    by_cases hio : i < o.length
    · have hs : o[i]? = some o[i] := List.getElem?_eq_getElem hio
      rw [decide_eq_true (by omega), cond_true, gi_of hs, Option.bind_some, show (⟨false, [o[i]], [], [], []⟩ : Part) = lnP [o[i]] from rfl, l3Put_eq hP1 (by omega) (by simp [lnP]), Option.bind_some, ex, ey]
      have hm : mergeS o a b i x y io ia ib out = putP (putP out (partP (cutI o io i) (cutI a ia x) (cutI b ib y))) (lnP [o[i]]) := by
        unfold mergeS
        rw [show ((i : Int)).toNat = i by omega, hs]
      rw [← hm]
      exact hfin
    · rw [decide_eq_false (by omega), cond_false, ex, ey]
      have hm : mergeS o a b i x y io ia ib out = putP out (partP (cutI o io i) (cutI a ia x) (cutI b ib y)) := by
        unfold mergeS
        rw [show ((i : Int)).toNat = i by omega, List.getElem?_eq_none (by omega)]
      rw [← hm]
      exact hfin
theorem asc_full (o a : List Str) : Asc ((a.length : Int) + 1) 0 (mt2 o a ++ [(a.length : Int)]) ∧ (mt2 o a ++ [(a.length : Int)]).length = o.length + 1 := by
  have h := mt2_asc o a
  exact ⟨Asc.snoc (by omega) (by omega) h.1, by simp [h.2]⟩
theorem l3Of_eq {o a b : List Str} (ho : o.length ≤ 1000) (ha : a.length ≤ 1000) (hb : b.length ≤ 1000) : spec_l3Of o a b = some (mergeF o a b) := by
  obtain ⟨a1, a2⟩ := asc_full o a
  obtain ⟨b1, b2⟩ := asc_full o b
  have l1 := (mt2_asc o a).2
  have l2 := (mt2_asc o b).2
  unfold spec_l3Of
  rw [smatch_eq ho ha, Option.bind_some, ap1' (by omega), Option.bind_some, smatch_eq ho hb, Option.bind_some, ap1' (by omega), Option.bind_some]
  simp only [jn]
  have := smerge_l1 ho ha hb a2 b2 (o.length + 1) 0 ((((mt2 o a ++ [(a.length : Int)]).length : Int) - 0).toNat + 1) 0 0 0 [] (by omega) (by omega) a1 b1 (by omega) (by omega) (by omega) (by omega) ⟨by simp, by simp⟩
  exact this
theorem mergeF_PB {o a b : List Str} (ho : o.length ≤ 1000) (ha : a.length ≤ 1000) (hb : b.length ≤ 1000) : PB 2002 (mergeF o a b) := by
  have := mergeG_PB (o := o) ha hb (mt2 o a ++ [(a.length : Int)]) (mt2 o b ++ [(b.length : Int)]) 0 0 0 0 0 [] ⟨by simp, by simp⟩
  rw [(asc_full o a).2] at this
  exact this.mono (by omega)
end Go.Vm
