/- Plain laws of the statements' own helpers: they count bulk, copy, compare, mark; printed by a program of ours. Conditions: each law's own premises. -/
import Derived.Test.YtmjjhnahdmlmaaaDoorXPm
import Derived.Test.YtmjjhnahdmlmaaaDoorXMd
namespace Go.Vm
open Go Go.Sx
set_option linter.unusedSimpArgs false
set_option linter.unusedVariables false

theorem eszStringS {xs : List Str} {n : Int} (hf : Bk.fit xs) (h0 : 0 ≤ n) (hN : n ≤ 1048576) : laws_szStringS xs n = some (if (Bk.bulk xs : Int) ≤ n then n - Bk.bulk xs else -1) := by
  have hl := fit_len hf
  unfold laws_szStringS
  have hw : w64 (n - (xs.length : Int)) = n - xs.length := w64_id (by unfold maxi at hl; omega) (by omega)
  have hb : (Bk.bulk xs : Int) = xs.length + sumB Bk.bulk xs := by simp [Bk.bulk]
  simp only [hw, jn, fuel0]
  by_cases h : n - (xs.length : Int) < 0
  · rw [decide_eq_true h, cond_true, if_neg (by omega)]
  · rw [decide_eq_false h, cond_false]
    rw [loop_size (α := Str) (xs := xs) (b := Bk.bulk) (N := 1048576) (r0 := some (-1)) (Z := fun a => some a) (f := fun m a i => laws_szStringS_l1 xs (fun y2 _ _ => some y2) m a 0 i) (fun m a i x hx ha hA => by
      have hx2 : x.length ≤ maxi := fit_at hf hx
      have hw2 : w64 (a - (x.length : Int)) = a - x.length := w64_id (by unfold maxi at hx2; omega) (by omega)
      simp only [laws_szStringS_l1, lt_of hx, gi_of hx, cond_true, Option.bind_some, hw2, w64_ix (ix_of hx) hl]
      by_cases h1 : a - (x.length : Int) < 0
      · rw [decide_eq_true h1, cond_true, if_neg (by simp only [Bk.bulk]; omega)]
      · rw [decide_eq_false h1, cond_false, if_pos (by simp only [Bk.bulk]; omega)]; rfl) (fun m a => by
      simp only [laws_szStringS_l1, end_of, cond_false]) (by omega) (by omega) (by omega)]
    by_cases h2 : (sumB Bk.bulk xs : Int) ≤ n - xs.length
    · rw [if_pos h2, if_pos (by omega), hb]; congr 1; omega
    · rw [if_neg h2, if_neg (by omega)]
theorem eszOp {x : Op} {n : Int} (hf : Bk.fit x) (h0 : 0 ≤ n) (hN : n ≤ 1048576) : laws_szOp x n = some (if (Bk.bulk x : Int) ≤ n then n - Bk.bulk x else -1) := by
  obtain ⟨f0, f1, f2, f3, f4, f5, f6⟩ := hf
  have hb : Bk.bulk x = Bk.bulk x.Kind + (Bk.bulk x.Branch + (Bk.bulk x.Who + (Bk.bulk x.Path + (Bk.bulk x.To + (Bk.bulk x.At + (Bk.bulk x.Text)))))) := rfl
  have b0 : Bk.bulk x.Kind = 0 := rfl
  have b1 : Bk.bulk x.Branch = x.Branch.length := rfl
  have g1 : x.Branch.length ≤ maxi := f1
  unfold maxi at g1
  have b2 : Bk.bulk x.Who = x.Who.length := rfl
  have g2 : x.Who.length ≤ maxi := f2
  unfold maxi at g2
  have b3 : Bk.bulk x.Path = x.Path.length := rfl
  have g3 : x.Path.length ≤ maxi := f3
  unfold maxi at g3
  have b4 : Bk.bulk x.To = x.To.length := rfl
  have g4 : x.To.length ≤ maxi := f4
  unfold maxi at g4
  have b5 : Bk.bulk x.At = 0 := rfl
  unfold laws_szOp
  have w1 : w64 (n - (x.Branch.length : Int)) = n - (x.Branch.length : Int) := w64_id (by omega) (by omega)
  simp only [w1]
  by_cases h1 : n - (x.Branch.length : Int) < 0
  case pos => rw [decide_eq_true h1, cond_true, if_neg (by omega)]
  rw [decide_eq_false h1, cond_false]
  have w2 : w64 (n - (x.Branch.length : Int) - (x.Who.length : Int)) = n - (x.Branch.length : Int) - (x.Who.length : Int) := w64_id (by omega) (by omega)
  simp only [w2]
  by_cases h2 : n - (x.Branch.length : Int) - (x.Who.length : Int) < 0
  case pos => rw [decide_eq_true h2, cond_true, if_neg (by omega)]
  rw [decide_eq_false h2, cond_false]
  have w3 : w64 (n - (x.Branch.length : Int) - (x.Who.length : Int) - (x.Path.length : Int)) = n - (x.Branch.length : Int) - (x.Who.length : Int) - (x.Path.length : Int) := w64_id (by omega) (by omega)
  simp only [w3]
  by_cases h3 : n - (x.Branch.length : Int) - (x.Who.length : Int) - (x.Path.length : Int) < 0
  case pos => rw [decide_eq_true h3, cond_true, if_neg (by omega)]
  rw [decide_eq_false h3, cond_false]
  have w4 : w64 (n - (x.Branch.length : Int) - (x.Who.length : Int) - (x.Path.length : Int) - (x.To.length : Int)) = n - (x.Branch.length : Int) - (x.Who.length : Int) - (x.Path.length : Int) - (x.To.length : Int) := w64_id (by omega) (by omega)
  simp only [w4]
  by_cases h4 : n - (x.Branch.length : Int) - (x.Who.length : Int) - (x.Path.length : Int) - (x.To.length : Int) < 0
  case pos => rw [decide_eq_true h4, cond_true, if_neg (by omega)]
  rw [decide_eq_false h4, cond_false]
  rw [eszStringS f6 (by omega) (by omega), Option.bind_some]
  by_cases h6 : (Bk.bulk x.Text : Int) ≤ n - (x.Branch.length : Int) - (x.Who.length : Int) - (x.Path.length : Int) - (x.To.length : Int)
  case neg => rw [if_neg h6, if_neg (by omega)]; rfl
  rw [if_pos h6, decide_eq_false (by omega), cond_false]
  rw [if_pos (by omega)]
  congr 1; omega
theorem etoStringS {xs : List Str} (h : Bk.bulk xs ≤ 1048576) : laws_toStringS xs = some xs := by
  have hl := bulk_len h
  unfold laws_toStringS
  simp only [mkM_of (to_lim hl), jn, fuel0, Option.bind_some]
  rw [loop_copy (g := id) (Z := fun ys => some ys) (f := fun m i out => laws_toStringS_l1 xs (fun _ y6 => some y6) m i out) (fun m i x out hx ho => by
    have hi := ix_of hx
    simp only [laws_toStringS_l1, lt_of hx, gi_of hx, cond_true, Option.bind_some, w64_ix hi (to_maxi hl), siM_of (show i < out.length by omega), gi_of (List.getElem?_eq_getElem (show i < out.length by omega)), id]) (fun m out => by
    simp only [laws_toStringS_l1, end_of, cond_false]) (by omega)]
  simp
theorem etoOp {x : Op} (h : Bk.bulk x ≤ 1048576) : laws_toOp x = some x := by
  have hb : Bk.bulk x = Bk.bulk x.Kind + (Bk.bulk x.Branch + (Bk.bulk x.Who + (Bk.bulk x.Path + (Bk.bulk x.To + (Bk.bulk x.At + (Bk.bulk x.Text)))))) := rfl
  unfold laws_toOp
  simp only [etoStringS (show Bk.bulk x.Text ≤ 1048576 by omega), Option.bind_some]
theorem eeqStringS {xs ys : List Str} (h : Bk.fit xs) : laws_eqStringS xs ys = some (xs == ys) := by
  have hl := fit_len h
  unfold laws_eqStringS
  simp only [bne_len, jn, fuel0]
  by_cases hn : xs.length = ys.length
  · rw [hn, beq_self_eq_true, Bool.not_true, cond_false, ← hn]
    rw [loop_eq (α := Str) (r0 := some false) (Z := some true) (f := fun m i => laws_eqStringS_l1 xs ys (fun _ _ => some true) m false i) hn (fun m i x y hx hy => by
      simp only [laws_eqStringS_l1, lt_of hx, gi_of hx, gi_of hy, cond_true, Option.bind_some, w64_ix (ix_of hx) hl, bne]
      cases x == y <;> rfl) (fun m => by simp only [laws_eqStringS_l1, end_of, cond_false]) (by omega)]
    cases xs == ys <;> rfl
  · rw [beq_false_of_ne hn, Bool.not_false, cond_true, beq_false_of_ne (fun e => hn (by rw [e]))]
theorem eeqOp {x y : Op} (h : Bk.fit x) : laws_eqOp x y = some (x == y) := by
  obtain ⟨f0, f1, f2, f3, f4, f5, f6⟩ := h
  unfold laws_eqOp
  simp only [eeqStringS f6, Option.bind_some, bne]
  obtain ⟨a0, a1, a2, a3, a4, a5, a6⟩ := x
  obtain ⟨b0, b1, b2, b3, b4, b5, b6⟩ := y
  have : ((⟨a0, a1, a2, a3, a4, a5, a6⟩ : Op) == ⟨b0, b1, b2, b3, b4, b5, b6⟩) = (a0 == b0 && (a1 == b1 && (a2 == b2 && (a3 == b3 && (a4 == b4 && (a5 == b5 && (a6 == b6))))))) := by
    have hb : ∀ b c : Bool, (b = true ↔ c = true) → b = c := by decide
    apply hb
    simp
  rw [this]
  cases a0 == b0 <;> cases a1 == b1 <;> cases a2 == b2 <;> cases a3 == b3 <;> cases a4 == b4 <;> cases a5 == b5 <;> cases a6 == b6 <;> rfl
end Go.Vm
