/- Plain laws of the statements' own helpers over texts and memos: they count bulk, copy and compare. Conditions: each law's own premises. -/
import Derived.Test.YtjdljoplpcakpaaXBk
import Derived.Test.YtjdljoplpcakpaaXMd
namespace Go.Vm
open Go Go.Sx
set_option linter.unusedSimpArgs false
set_option linter.unusedVariables false


theorem szStringS_eq {xs : List Str} {n : Int} (hf : Bk.fit xs) (h0 : 0 ≤ n) (hN : n ≤ 1048576) :
    laws_szStringS xs n = some (if (Bk.bulk xs : Int) ≤ n then n - Bk.bulk xs else -1) := by
  have hl := fit_len hf
  unfold laws_szStringS
  have hw : w64 (n - (xs.length : Int)) = n - xs.length := w64_id (by unfold maxi at hl; omega) (by omega)
  have hb : (Bk.bulk xs : Int) = xs.length + sumB Bk.bulk xs := by simp [Bk.bulk]
  simp only [hw, jn, fuel0]
  by_cases h : n - (xs.length : Int) < 0
  · rw [decide_eq_true h, cond_true, if_neg (by omega)]
  · rw [decide_eq_false h, cond_false]
    rw [loop_size (α := Str) (xs := xs) (b := Bk.bulk) (N := 1048576) (r0 := some (-1)) (Z := fun a => some a) (f := fun m a i => laws_szStringS_l1 xs (fun y2 _ _ => some y2) m a 0 i) (fun m a i x hx ha hA => by
      have hx2 : x.length ≤ maxi := fit_at hf hx
      have hw2 : w64 (a - (x.length : Int)) = a - x.length := w64_id (by unfold maxi at hx2; omega) (by omega)
      simp only [laws_szStringS_l1, lt_of hx, gi_of hx, cond_true, Option.bind_some, hw2, w64_ix (ix_of hx) hl]
      by_cases h1 : a - (x.length : Int) < 0
      · rw [decide_eq_true h1, cond_true, if_neg (by simp only [Bk.bulk]; omega)]
      · rw [decide_eq_false h1, cond_false, if_pos (by simp only [Bk.bulk]; omega)]; rfl) (fun m a => by
      simp only [laws_szStringS_l1, end_of, cond_false]) (by omega) (by omega) (by omega)]
    by_cases h2 : (sumB Bk.bulk xs : Int) ≤ n - xs.length
    · rw [if_pos h2, if_pos (by omega), hb]; congr 1; omega
    · rw [if_neg h2, if_neg (by omega)]

theorem szMemo_eq {x : Memo} {n : Int} (hf : Bk.fit x) (h0 : 0 ≤ n) (hN : n ≤ 1048576) :
    laws_szMemo x n = some (if (Bk.bulk x : Int) ≤ n then n - Bk.bulk x else -1) := by
  obtain ⟨f1, f2, f3, f4⟩ := hf
  have hb : (Bk.bulk x : Int) = Bk.bulk x.Old + (Bk.bulk x.One + (Bk.bulk x.Two + Bk.bulk x.Done)) := by simp [Bk.bulk]
  unfold laws_szMemo
  rw [szStringS_eq f1 h0 hN, Option.bind_some]
  by_cases h1 : (Bk.bulk x.Old : Int) ≤ n
  case neg => rw [if_neg h1, if_neg (by omega)]; rfl
  rw [if_pos h1, decide_eq_false (by omega), cond_false, szStringS_eq f2 (by omega) (by omega), Option.bind_some]
  by_cases h2 : (Bk.bulk x.One : Int) ≤ n - Bk.bulk x.Old
  case neg => rw [if_neg h2, if_neg (by omega)]; rfl
  rw [if_pos h2, decide_eq_false (by omega), cond_false, szStringS_eq f3 (by omega) (by omega), Option.bind_some]
  by_cases h3 : (Bk.bulk x.Two : Int) ≤ n - Bk.bulk x.Old - Bk.bulk x.One
  case neg => rw [if_neg h3, if_neg (by omega)]; rfl
  rw [if_pos h3, decide_eq_false (by omega), cond_false, szStringS_eq f4 (by omega) (by omega), Option.bind_some]
  by_cases h4 : (Bk.bulk x.Done : Int) ≤ n - Bk.bulk x.Old - Bk.bulk x.One - Bk.bulk x.Two
  case neg => rw [if_neg h4, if_neg (by omega)]; rfl
  rw [if_pos h4, decide_eq_false (by omega), cond_false, if_pos (by omega)]
  congr 1; omega
theorem szMemoS_eq {xs : List Memo} {n : Int} (hf : Bk.fit xs) (h0 : 0 ≤ n) (hN : n ≤ 1048576) :
    laws_szMemoS xs n = some (if (Bk.bulk xs : Int) ≤ n then n - Bk.bulk xs else -1) := by
  have hl := fit_len hf
  unfold laws_szMemoS
  have hw : w64 (n - (xs.length : Int)) = n - xs.length := w64_id (by unfold maxi at hl; omega) (by omega)
  have hb : (Bk.bulk xs : Int) = xs.length + sumB Bk.bulk xs := by simp [Bk.bulk]
  simp only [hw, jn, fuel0]
  by_cases h : n - (xs.length : Int) < 0
  · rw [decide_eq_true h, cond_true, if_neg (by omega)]
  · rw [decide_eq_false h, cond_false]
    rw [loop_size (α := Memo) (xs := xs) (b := Bk.bulk) (N := 1048576) (r0 := some (-1)) (Z := fun a => some a) (f := fun m a i => laws_szMemoS_l1 xs (fun y2 _ _ => some y2) m a 0 i) (fun m a i x hx ha hA => by
      simp only [laws_szMemoS_l1, lt_of hx, gi_of hx, cond_true, Option.bind_some, szMemo_eq (fit_at hf hx) ha hA, w64_ix (ix_of hx) hl]
      by_cases h1 : (Bk.bulk x : Int) ≤ a
      · rw [if_pos h1, decide_eq_false (by omega), cond_false, if_pos h1]
      · rw [if_neg h1, if_neg h1]; rfl) (fun m a => by
      simp only [laws_szMemoS_l1, end_of, cond_false]) (by omega) (by omega) (by omega)]
    by_cases h2 : (sumB Bk.bulk xs : Int) ≤ n - xs.length
    · rw [if_pos h2, if_pos (by omega), hb]; congr 1; omega
    · rw [if_neg h2, if_neg (by omega)]
theorem toStringS_eq {xs : List Str} (h : xs.length ≤ 1048576) : laws_toStringS xs = some xs := by
  unfold laws_toStringS
  simp only [mkM_of (to_lim h), jn, fuel0, Option.bind_some]
  rw [loop_copy (g := id) (Z := fun ys => some ys) (f := fun m i out => laws_toStringS_l1 xs (fun _ y6 => some y6) m i out) (fun m i x out hx ho => by
    have hi := ix_of hx
    simp only [laws_toStringS_l1, lt_of hx, gi_of hx, cond_true, Option.bind_some, w64_ix hi (to_maxi h), siM_of (show i < out.length by omega), gi_of (List.getElem?_eq_getElem (show i < out.length by omega)), id]) (fun m out => by
    simp only [laws_toStringS_l1, end_of, cond_false]) (by omega)]
  simp
theorem toMemo_eq {x : Memo} (h : Bk.bulk x ≤ 1048576) : laws_toMemo x = some x := by
  have hb : Bk.bulk x = Bk.bulk x.Old + (Bk.bulk x.One + (Bk.bulk x.Two + Bk.bulk x.Done)) := rfl
  unfold laws_toMemo
  simp only [toStringS_eq (bulk_len (show Bk.bulk x.Old ≤ 1048576 by omega)), toStringS_eq (bulk_len (show Bk.bulk x.One ≤ 1048576 by omega)), toStringS_eq (bulk_len (show Bk.bulk x.Two ≤ 1048576 by omega)), toStringS_eq (bulk_len (show Bk.bulk x.Done ≤ 1048576 by omega)), Option.bind_some]
theorem toMemoS_eq {xs : List Memo} (h : Bk.bulk xs ≤ 1048576) : laws_toMemoS xs = some xs := by
  have hl := bulk_len h
  unfold laws_toMemoS
  simp only [mkM_of (to_lim hl), jn, fuel0, Option.bind_some]
  rw [loop_copy (g := id) (Z := fun ys => some ys) (f := fun m i out => laws_toMemoS_l1 xs (fun _ y6 => some y6) m i out) (fun m i x out hx ho => by
    have hi := ix_of hx
    simp only [laws_toMemoS_l1, lt_of hx, gi_of hx, cond_true, Option.bind_some, toMemo_eq (bulk_at h hx), w64_ix hi (to_maxi hl), siM_of (show i < out.length by omega), gi_of (List.getElem?_eq_getElem (show i < out.length by omega)), id]) (fun m out => by
    simp only [laws_toMemoS_l1, end_of, cond_false]) (by omega)]
  simp
theorem eqStringS_eq {xs ys : List Str} (h : xs.length ≤ maxi) : laws_eqStringS xs ys = some (xs == ys) := by
  unfold laws_eqStringS
  simp only [bne_len, jn, fuel0]
  by_cases hn : xs.length = ys.length
  · rw [hn, beq_self_eq_true, Bool.not_true, cond_false, ← hn]
    rw [loop_eq (α := Str) (r0 := some false) (Z := some true) (f := fun m i => laws_eqStringS_l1 xs ys (fun _ _ => some true) m false i) hn (fun m i x y hx hy => by
      simp only [laws_eqStringS_l1, lt_of hx, gi_of hx, gi_of hy, cond_true, Option.bind_some, w64_ix (ix_of hx) h, bne]
      cases x == y <;> rfl) (fun m => by simp only [laws_eqStringS_l1, end_of, cond_false]) (by omega)]
    cases xs == ys <;> rfl
  · rw [beq_false_of_ne hn, Bool.not_false, cond_true, beq_false_of_ne (fun e => hn (by rw [e]))]
theorem eqMemo_eq {x y : Memo} (h : Bk.fit x) : laws_eqMemo x y = some (x == y) := by
  obtain ⟨f1, f2, f3, f4⟩ := h
  unfold laws_eqMemo
  simp only [eqStringS_eq (fit_len f1), eqStringS_eq (fit_len f2), eqStringS_eq (fit_len f3), eqStringS_eq (fit_len f4), Option.bind_some]
  obtain ⟨a, b, c, d⟩ := x
  obtain ⟨a', b', c', d'⟩ := y
  have : ((⟨a, b, c, d⟩ : Memo) == ⟨a', b', c', d'⟩) = (a == a' && (b == b' && (c == c' && d == d'))) := by
    have hb : ∀ b c : Bool, (b = true ↔ c = true) → b = c := by decide
    apply hb
    simp
  rw [this]
  cases a == a' <;> cases b == b' <;> cases c == c' <;> cases d == d' <;> rfl
theorem eqMemoS_eq {xs ys : List Memo} (h : Bk.fit xs) : laws_eqMemoS xs ys = some (xs == ys) := by
  have hl := fit_len h
  unfold laws_eqMemoS
  simp only [bne_len, jn, fuel0]
  by_cases hn : xs.length = ys.length
  · rw [hn, beq_self_eq_true, Bool.not_true, cond_false, ← hn]
    rw [loop_eq (α := Memo) (r0 := some false) (Z := some true) (f := fun m i => laws_eqMemoS_l1 xs ys (fun _ _ => some true) m false i) hn (fun m i x y hx hy => by
      simp only [laws_eqMemoS_l1, lt_of hx, gi_of hx, gi_of hy, cond_true, Option.bind_some, eqMemo_eq (fit_at h hx), w64_ix (ix_of hx) hl]
      cases x == y <;> rfl) (fun m => by simp only [laws_eqMemoS_l1, end_of, cond_false]) (by omega)]
    cases xs == ys <;> rfl
  · rw [beq_false_of_ne hn, Bool.not_false, cond_true, beq_false_of_ne (fun e => hn (by rw [e]))]
end Go.Vm
