/- Plain law FnExactOpPut: both sides write alike. Conditions: the law's own premises. -/
import Derived.Test.YtmjjhnahdmlmaaaDoorXQu
import Derived.Lib.ItoaNum
namespace Go.Vm
open Go Go.Sx
set_option linter.unusedSimpArgs false
set_option linter.unusedVariables false

theorem saM_of {a b : Str} (h : a.length + b.length ≤ 1000000000) : saM a b = some (a ++ b) := by
  unfold saM
  rw [if_pos]
  simp only [lim]
  omega
def barsL (t : List Str) : Str := (t.map fun s => (124 : UInt8) :: s).flatten
theorem join_l1 {t : List Str} (ht : t.length ≤ 10000000) : ∀ (n i m : Nat) (out : Str), i + n = t.length → n < m → out.length + (barsL (t.drop i)).length ≤ 1000000000 →
    impl_joinLines_l1 t (fun y1 _ => some y1) m out (i : Int) = some (out ++ barsL (t.drop i))
  | n, i, 0, out, _, hm, _ => by omega
  | 0, i, m + 1, out, hi, _, _ => by
    obtain rfl : i = t.length := by omega
    simp only [impl_joinLines_l1, end_of, cond_false, List.drop_length]
    simp [barsL]
  | n + 1, i, m + 1, out, hi, hm, hb => by
    have hlt : i < t.length := by omega
    have hx : t[i]? = some t[i] := List.getElem?_eq_getElem hlt
    have hd : t.drop i = t[i] :: t.drop (i + 1) := List.drop_eq_getElem_cons hlt
    have hbe : barsL (t.drop i) = (124 :: t[i]) ++ barsL (t.drop (i + 1)) := by rw [hd]; rfl
    rw [hbe] at hb
    simp only [List.length_append, List.length_cons] at hb
    simp only [impl_joinLines_l1, lt_of hx, gi_of hx, cond_true, Option.bind_some, w64_ix hlt (show t.length ≤ maxi by unfold maxi; omega)]
    rw [saM_of (by simp only [List.length_cons, List.length_nil]; omega), Option.bind_some, saM_of (by simp only [List.length_append, List.length_cons, List.length_nil]; omega), Option.bind_some,
      join_l1 ht n (i + 1) m _ (by omega) (by omega) (by simp only [List.length_append, List.length_cons, List.length_nil]; omega), hbe]
    simp
theorem put_l1 {o : Op} (ht : o.Text.length ≤ 10000000) : ∀ (n i m : Nat) (out : Str), i + n = o.Text.length → n < m → out.length + (barsL (o.Text.drop i)).length ≤ 1000000000 →
    spec_l19Put_l1 o (fun y => some y) m out (i : Int) = some (out ++ barsL (o.Text.drop i))
  | n, i, 0, out, _, hm, _ => by omega
  | 0, i, m + 1, out, hi, _, _ => by
    obtain rfl : i = o.Text.length := by omega
    simp only [spec_l19Put_l1, end_of, cond_false, List.drop_length]
    simp [barsL]
  | n + 1, i, m + 1, out, hi, hm, hb => by
    have hlt : i < o.Text.length := by omega
    have hx : o.Text[i]? = some o.Text[i] := List.getElem?_eq_getElem hlt
    have hd : o.Text.drop i = o.Text[i] :: o.Text.drop (i + 1) := List.drop_eq_getElem_cons hlt
    have hbe : barsL (o.Text.drop i) = (124 :: o.Text[i]) ++ barsL (o.Text.drop (i + 1)) := by rw [hd]; rfl
    rw [hbe] at hb
    simp only [List.length_append, List.length_cons] at hb
    simp only [spec_l19Put_l1, lt_of hx, gi_of hx, cond_true, Option.bind_some, w64_ix hlt (show o.Text.length ≤ maxi by unfold maxi; omega)]
    rw [saM_of (by simp only [List.length_cons, List.length_nil]; omega), Option.bind_some, saM_of (by simp only [List.length_append, List.length_cons, List.length_nil]; omega), Option.bind_some,
      put_l1 ht n (i + 1) m _ (by omega) (by omega) (by simp only [List.length_append, List.length_cons, List.length_nil]; omega), hbe]
    simp
theorem bars_len : ∀ t : List Str, (barsL t).length = Bk.bulk t
  | [] => rfl
  | x :: t => by
    have ih := bars_len t
    have h1 : barsL (x :: t) = (124 :: x) ++ barsL t := rfl
    have h2 : Bk.bulk (x :: t) = (t.length + 1) + (x.length + sumB Bk.bulk t) := rfl
    have h3 : Bk.bulk t = t.length + sumB Bk.bulk t := rfl
    rw [h1, List.length_append, ih, List.length_cons, h2, h3]
    omega
theorem dec_small (k : Nat) (hk : k < 16) : spec_l1Dec (k : Int) = some (Lib.decDigits k) := by
  have hd : Lib.decDigits k = if k < 10 then [UInt8.ofNat (48 + k)] else [UInt8.ofNat (48 + k / 10), UInt8.ofNat (48 + k % 10)] := by
    rw [Lib.decDigits]
    split
    · rfl
    · rw [Lib.decDigits, dif_pos (by omega)]
      rfl
  rw [hd]
  clear hd
  revert k
  decide +kernel
theorem dec_len (k : Nat) (hk : k < 16) : (Lib.decDigits k).length ≤ 2 := by
  rw [Lib.decDigits]
  split
  · simp
  · rw [Lib.decDigits, dif_pos (by omega)]; simp
def wordsL : List Str := [[], [115, 101, 116], [100, 114, 111, 112], [109, 111, 118, 101], [102, 111, 114, 107], [117, 110, 105, 116, 101], [112, 105, 99, 107], [98, 97, 99, 107]]
theorem name_len {s : Str} (h : nameB s = true) : s.length ≤ 6 := by
  unfold nameB at h
  simp only [Bool.and_eq_true, decide_eq_true_eq] at h
  omega
theorem opB_kind {o : Op} (h : opB o = true) : o.Branch.length ≤ 6 ∧ o.Who.length ≤ 6 ∧ (o.Kind = 1 ∨ o.Kind = 2 ∨ o.Kind = 3 ∨ o.Kind = 4 ∨ o.Kind = 5 ∨ ((o.Kind = 6 ∨ o.Kind = 7) ∧ 0 ≤ o.At ∧ o.At ≤ 15)) := by
  unfold opB at h
  simp only [Bool.and_eq_true] at h
  obtain ⟨h1, h2, h3⟩ := h
  refine ⟨name_len h1, name_len h2, ?_⟩
  cases e1 : o.Kind == 1 with
  | true => exact .inl (by simpa using e1)
  | false =>
  rw [e1, cond_false] at h3
  cases e2 : o.Kind == 2 with
  | true => exact .inr (.inl (by simpa using e2))
  | false =>
  rw [e2, cond_false] at h3
  cases e3 : o.Kind == 3 with
  | true => exact .inr (.inr (.inl (by simpa using e3)))
  | false =>
  rw [e3, cond_false] at h3
  cases e4 : o.Kind == 4 with
  | true => exact .inr (.inr (.inr (.inl (by simpa using e4))))
  | false =>
  cases e5 : o.Kind == 5 with
  | true => exact .inr (.inr (.inr (.inr (.inl (by simpa using e5)))))
  | false =>
  rw [e4, e5, Bool.or_false, cond_false] at h3
  cases e6 : (o.Kind == 6 || o.Kind == 7) with
  | false => rw [e6, cond_false] at h3; cases h3
  | true =>
    rw [e6, cond_true] at h3
    simp only [Bool.and_eq_true, decide_eq_true_eq] at h3
    exact .inr (.inr (.inr (.inr (.inr ⟨by simpa using e6, h3.1.1, h3.1.2⟩))))
/-- How it is written. -/
def putS (o : Op) : Str :=
  let w := wordsL.getD o.Kind.toNat [] ++ [32] ++ o.Branch ++ [32] ++ o.Who ++ [32]
  bif o.Kind == 1 then w ++ o.Path ++ [32] ++ barsL o.Text
  else bif o.Kind == 2 then w ++ o.Path
  else bif o.Kind == 3 then w ++ o.Path ++ [32] ++ o.To
  else bif o.Kind == 4 || o.Kind == 5 then w ++ o.To
  else w ++ Lib.decDigits o.At.toNat
theorem iPut_eq {o : Op} (h : OpFit o) (ho : opB o = true) : impl_opPut o = some (putS o) := by
  obtain ⟨hb, hw, hk⟩ := opB_kind ho
  have hp := h.path
  have ht := h.to
  have hx := h.text
  have hl := bulk_len hx
  have hbl := bars_len o.Text
  have hj : impl_joinLines o.Text = some (barsL o.Text) := by
    unfold impl_joinLines
    simp only [jn, fuel0]
    have := join_l1 (t := o.Text) (by omega) o.Text.length 0 (o.Text.length + 1) [] (by omega) (by omega) (by rw [List.drop_zero, hbl]; simp; omega)
    simpa using this
  unfold impl_opPut putS impl_opWords
  rcases hk with e | e | e | e | e | ⟨e | e, h0, h1⟩
  all_goals simp only [e, Option.bind_some, jn]
  all_goals simp (disch := (simp only [List.length_append, List.length_cons, List.length_nil]; omega)) only [gi, wordsL, saM_of, Option.bind_some, hj, Int.reduceToNat, Int.reduceLE, ↓reduceIte, List.getElem?_cons_succ, List.getElem?_cons_zero, List.getD_cons_succ, List.getD_cons_zero, Int.reduceBEq, cond_true, cond_false, Bool.or_false, Bool.or_true, Bool.false_or]
  all_goals
    have hd := dec_len o.At.toNat (by omega)
    have hi : strconv_Itoa o.At = some (Lib.decDigits o.At.toNat) := by unfold strconv_Itoa; rw [if_pos ⟨by omega, by omega⟩]
    rw [hi, Option.bind_some, saM_of (by simp only [List.length_append, List.length_cons, List.length_nil]; omega), Option.bind_some]
theorem sPut_eq {o : Op} (h : OpFit o) (ho : opB o = true) : spec_l19Put o = some (putS o) := by
  obtain ⟨hb, hw, hk⟩ := opB_kind ho
  have hp := h.path
  have ht := h.to
  have hx := h.text
  have hl := bulk_len hx
  have hbl := bars_len o.Text
  have hj : ∀ out : Str, out.length ≤ 10000000 → spec_l19Put_l1 o (fun y => some y) (o.Text.length + 1) out 0 = some (out ++ barsL o.Text) := fun out hout => by
    have := put_l1 (o := o) (by omega) o.Text.length 0 (o.Text.length + 1) out (by omega) (by omega) (by rw [List.drop_zero, hbl]; omega)
    simpa using this
  unfold spec_l19Put putS spec_l19Words
  rcases hk with e | e | e | e | e | ⟨e | e, h0, h1⟩
  all_goals simp only [e, Option.bind_some, jn, fuel0]
  all_goals simp (disch := (simp only [List.length_append, List.length_cons, List.length_nil]; omega)) only [gi, wordsL, saM_of, Option.bind_some, hj, Int.reduceToNat, Int.reduceLE, ↓reduceIte, List.getElem?_cons_succ, List.getElem?_cons_zero, List.getD_cons_succ, List.getD_cons_zero, Int.reduceBEq, cond_true, cond_false, Bool.or_false, Bool.or_true, Bool.false_or]
  all_goals
    have hd := dec_len o.At.toNat (by omega)
    have hi : spec_l1Dec o.At = some (Lib.decDigits o.At.toNat) := by
      have := dec_small o.At.toNat (by omega)
      rwa [Int.toNat_of_nonneg h0] at this
    rw [hi, Option.bind_some, saM_of (by simp only [List.length_append, List.length_cons, List.length_nil]; omega), Option.bind_some]
def opPutB (o : Op) : Str := bif opB o then putS o else []
theorem iOpPut_eq {o : Op} (h : OpFit o) : impl_OpPut o = some (opPutB o) := by
  unfold impl_OpPut opPutB
  rw [iOpOk_eq h, Option.bind_some]
  cases ho : opB o with
  | false => rfl
  | true => rw [Bool.not_true, cond_false, iPut_eq h ho]; rfl
theorem sOpPut_eq {o : Op} (h : OpFit o) : spec_OpPut o = some (opPutB o) := by
  unfold spec_OpPut opPutB
  rw [l19Ok_eq h, Option.bind_some]
  cases ho : opB o with
  | false => rfl
  | true => rw [Bool.not_true, cond_false, sPut_eq h ho]; rfl
end Go.Vm
