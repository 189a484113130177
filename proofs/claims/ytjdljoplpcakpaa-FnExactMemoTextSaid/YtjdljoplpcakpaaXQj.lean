/- Plain laws: MemoLeft and MemoText answer as the reference's do. Conditions: each law's own premises. -/
import Derived.Test.YtjdljoplpcakpaaXQi
import Derived.Test.YtjdljoplpcakpaaXQc
namespace Go.Vm
open Go Go.Sx
set_option linter.unusedSimpArgs false
set_option linter.unusedVariables false
section
variable {xs : List Memo} {o a b : List Str}
theorem FnExactMemoLeft_eq (h : Bk.fit xs) (ho : Bk.fit o) (ha : Bk.fit a) (hb : Bk.fit b) : laws_FnExactMemoLeft xs o a b = some true := by
  unfold laws_FnExactMemoLeft
  rw [szMemoS_eq h (by omega) (by omega), Option.bind_some]
  by_cases h1 : (Bk.bulk xs : Int) ≤ 1048576
  case neg => rw [if_neg h1]; rfl
  rw [if_pos h1, decide_eq_false (by omega), cond_false, szStringS_eq ho (by omega) (by omega), Option.bind_some]
  by_cases h2 : (Bk.bulk o : Int) ≤ 1048576 - Bk.bulk xs
  case neg => rw [if_neg h2]; rfl
  rw [if_pos h2, decide_eq_false (by omega), cond_false, szStringS_eq ha (by omega) (by omega), Option.bind_some]
  by_cases h3 : (Bk.bulk a : Int) ≤ 1048576 - Bk.bulk xs - Bk.bulk o
  case neg => rw [if_neg h3]; rfl
  rw [if_pos h3, decide_eq_false (by omega), cond_false, szStringS_eq hb (by omega) (by omega), Option.bind_some]
  by_cases h4 : (Bk.bulk b : Int) ≤ 1048576 - Bk.bulk xs - Bk.bulk o - Bk.bulk a
  case neg => rw [if_neg h4]; rfl
  rw [if_pos h4, decide_eq_false (by omega), cond_false]
  simp only [toMemoS_eq (show Bk.bulk xs ≤ 1048576 by omega), toStringS_eq (bulk_len (show Bk.bulk o ≤ 1048576 by omega)), toStringS_eq (bulk_len (show Bk.bulk a ≤ 1048576 by omega)), toStringS_eq (bulk_len (show Bk.bulk b ≤ 1048576 by omega)),
    Option.bind_some, sMemoLeft_eq h ho ha hb, iMemoLeft_eq h ho ha hb, bne_self_eq_false, cond_false, eqMemoS_eq h, eqStringS_eq (fit_len ho), eqStringS_eq (fit_len ha), eqStringS_eq (fit_len hb), beq_self_eq_true, Bool.not_true]
theorem memoT_len : (memoT xs o a b).1.length ≤ 10 := by
  unfold memoT
  cases mergeB xs o a b
  · simp
  · rw [cond_true]
    unfold textT
    split
    · rename_i t _
      unfold okT
      cases ht : textB t
      · simp
      · exact textB_len ht
    · simp
theorem FnExactMemoText_eq (h : Bk.fit xs) (ho : Bk.fit o) (ha : Bk.fit a) (hb : Bk.fit b) : laws_FnExactMemoText xs o a b = some true := by
  unfold laws_FnExactMemoText
  rw [szMemoS_eq h (by omega) (by omega), Option.bind_some]
  by_cases h1 : (Bk.bulk xs : Int) ≤ 1048576
  case neg => rw [if_neg h1]; rfl
  rw [if_pos h1, decide_eq_false (by omega), cond_false, szStringS_eq ho (by omega) (by omega), Option.bind_some]
  by_cases h2 : (Bk.bulk o : Int) ≤ 1048576 - Bk.bulk xs
  case neg => rw [if_neg h2]; rfl
  rw [if_pos h2, decide_eq_false (by omega), cond_false, szStringS_eq ha (by omega) (by omega), Option.bind_some]
  by_cases h3 : (Bk.bulk a : Int) ≤ 1048576 - Bk.bulk xs - Bk.bulk o
  case neg => rw [if_neg h3]; rfl
  rw [if_pos h3, decide_eq_false (by omega), cond_false, szStringS_eq hb (by omega) (by omega), Option.bind_some]
  by_cases h4 : (Bk.bulk b : Int) ≤ 1048576 - Bk.bulk xs - Bk.bulk o - Bk.bulk a
  case neg => rw [if_neg h4]; rfl
  rw [if_pos h4, decide_eq_false (by omega), cond_false]
  have b1 : Bk.bulk xs ≤ 1048576 := by omega
  have l0 := bulk_len b1
  have l1 := bulk_len (show Bk.bulk o ≤ 1048576 by omega)
  have l2 := bulk_len (show Bk.bulk a ≤ 1048576 by omega)
  have l3 := bulk_len (show Bk.bulk b ≤ 1048576 by omega)
  have s1 : sumB lenM xs ≤ Bk.bulk xs := Nat.le_trans (sumB_le lenM_le xs) (Nat.le_add_left _ _)
  have hlen := memoT_len (xs := xs) (o := o) (a := a) (b := b)
  have hfst : (turnL markM 1 xs).1 = 1 + sumB lenM xs := turnL_fst (b := lenM) (fun k x => rfl) xs 1
  have n1 : decide ((1 + (sumB lenM xs : Int) + o.length + a.length + b.length) < 0) = false := decide_eq_false (by omega)
  have n2 : decide ((1 + ((memoT xs o a b).1.length : Int)) < 0) = false := decide_eq_false (by omega)
  have hh : HeldS 1 (turnL (fun k _ => (k + 1, mt k)) 1 (memoT xs o a b).1).2 := fun i y hy => turnS_at _ _ i y hy
  have hhl := turnL_len (fun (k : Int) (_ : Str) => (k + 1, mt k)) (memoT xs o a b).1 1
  have hheld := heldStringS_eq hh (by omega) (show (1 : Int) + (turnL (fun k _ => (k + 1, mt k)) 1 (memoT xs o a b).1).2.length ≤ 536870912 by rw [hhl]; omega)
  rw [hhl] at hheld
  simp only [toMemoS_eq b1, toStringS_eq l1, toStringS_eq l2, toStringS_eq l3, Option.bind_some, sMemoText_eq h ho ha hb, iMemoText_eq h ho ha hb, jn, bne_self_eq_false, cond_false, cond_true, eqMemoS_eq h,
    eqStringS_eq (fit_len ho), eqStringS_eq (fit_len ha), eqStringS_eq (fit_len hb), eqStringS_eq (show (memoT xs o a b).1.length ≤ maxi by unfold maxi; omega), beq_self_eq_true, Bool.not_true,
    markMemoS_eq (xs := xs) (k := 1) (by omega) (by omega) l0, hfst, sPair (xs := o) (k := 1 + (sumB lenM xs : Int)) (by omega) (by omega), sPair (xs := a) (k := 1 + (sumB lenM xs : Int) + o.length) (by omega) (by omega),
    sPair (xs := b) (k := 1 + (sumB lenM xs : Int) + o.length + a.length) (by omega) (by omega), n1, sPair (xs := (memoT xs o a b).1) (k := 1) (by omega) (by omega), hheld, n2]
end
end Go.Vm
