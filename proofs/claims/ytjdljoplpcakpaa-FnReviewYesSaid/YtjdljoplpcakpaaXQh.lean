/- Plain laws of merges of texts, the program's side, and of what memos make of them. Conditions: each law's own premises. -/
import Derived.Test.YtjdljoplpcakpaaXQg
namespace Go.Vm
open Go Go.Sx
set_option linter.unusedSimpArgs false
set_option linter.unusedVariables false

theorem cut1 {o : List Str} {i : Nat} {s : Str} (h : o[i]? = some s) : slM o (i : Int) ((i + 1 : Nat) : Int) = some [s] := by
  have hi := ix_of h
  rw [slM_of (by omega) (by omega) (by omega)]
  congr 1
  rw [show (((i + 1 : Nat) : Int)).toNat = i + 1 by omega, show ((i : Int)).toNat = i by omega, List.drop_take, show i + 1 - i = 1 by omega, List.drop_eq_getElem_cons hi]
  rw [List.getElem?_eq_getElem hi] at h
  simp [Option.some.inj h]
theorem imerge_l1 {o a b : List Str} (ho : o.length ≤ 1000) (ha : a.length ≤ 1000) (hb : b.length ≤ 1000) {ma mb : List Int} (hla : ma.length = o.length + 1) (hlb : mb.length = o.length + 1) :
    ∀ (n i m : Nat) (io ia ib : Int) (out : List Part), i + n = o.length + 1 → n < m → Asc ((a.length : Int) + 1) ia (ma.drop i) → Asc ((b.length : Int) + 1) ib (mb.drop i) → 0 ≤ io → io ≤ i → 0 ≤ ia → 0 ≤ ib → PB (2 * i) out →
      impl_mergeOf_l1 o a b ma mb (fun _ _ _ _ y49 => some y49) m io ia ib (i : Int) out = some (mergeG o a b i (ma.drop i) (mb.drop i) io ia ib out)
  | n, i, 0, _, _, _, _, _, hm, _, _, _, _, _, _, _ => by omega
  | 0, i, m + 1, io, ia, ib, out, hi, _, _, _, _, _, _, _, _ => by
    simp only [impl_mergeOf_l1]
    rw [decide_eq_false (by omega), cond_false, List.drop_eq_nil_of_le (by omega), mergeG.eq_def]
  | n + 1, i, m + 1, io, ia, ib, out, hi, hm, hA, hB, h0, h1, h2, h3, hP => by
    obtain ⟨x, hx⟩ : ∃ x, ma[i]? = some x := ⟨_, List.getElem?_eq_getElem (by omega)⟩
    obtain ⟨y, hy⟩ : ∃ y, mb[i]? = some y := ⟨_, List.getElem?_eq_getElem (by omega)⟩
    rw [drop_ix hx] at hA ⊢
    rw [drop_ix hy] at hB ⊢
    have ei : w64 ((i : Int) + 1) = ((i + 1 : Nat) : Int) := by rw [w64_id (by omega) (by omega)]; omega
    have ei' : (i : Int) + 1 = ((i + 1 : Nat) : Int) := by omega
    rw [ei'] at ei
    have dn : decide ((-1 : Int) < 0) = true := rfl
    have hstay : ∀ (hA' : Asc ((a.length : Int) + 1) ia (ma.drop (i + 1))) (hB' : Asc ((b.length : Int) + 1) ib (mb.drop (i + 1))), impl_mergeOf_l1 o a b ma mb (fun _ _ _ _ y49 => some y49) m io ia ib ((i + 1 : Nat) : Int) out = some (mergeG o a b ((i + 1 : Nat) : Int) (ma.drop (i + 1)) (mb.drop (i + 1)) io ia ib out) :=
      fun hA' hB' => imerge_l1 ho ha hb hla hlb n (i + 1) m io ia ib out (by omega) (by omega) hA' hB' h0 (by omega) h2 h3 (hP.mono (by omega))
    rw [mergeG]
    simp only [impl_mergeOf_l1, jn, gi_of hx, gi_of hy, Option.bind_some, ei, ei', hla]
    rw [decide_eq_true (show (i : Int) < ((o.length + 1 : Nat) : Int) by omega), cond_true]
    rcases hA with ⟨rfl, hA⟩ | ⟨ha1, ha2, hA⟩
    · rcases hB with ⟨rfl, hB⟩ | ⟨hb1, hb2, hB⟩
      · simp only [dn, cond_true, Bool.true_or]; exact hstay hA hB
      · simp only [dn, cond_true, Bool.true_or]; exact hstay hA (hB.mono (by omega))
    rcases hB with ⟨rfl, hB⟩ | ⟨hb1, hb2, hB⟩
    · rw [decide_eq_false (show ¬ x < 0 by omega), cond_false]
      simp only [dn, cond_true, Bool.false_or]
      exact hstay (hA.mono (by omega)) hB
    rw [decide_eq_false (show ¬ x < 0 by omega), decide_eq_false (show ¬ y < 0 by omega)]
    simp only [cond_false, Bool.or_false]
    have ex : w64 (x + 1) = x + 1 := w64_id (by omega) (by omega)
    have ey : w64 (y + 1) = y + 1 := w64_id (by omega) (by omega)
    have c1 := cutI_len o io i
    have c2 := cutI_len a ia x
    have c3 := cutI_len b ib y
    have hP1 := putP_PB hP (partP_len (o := cutI o io i) (Nat.le_trans c2 ha) (Nat.le_trans c3 hb))
    have hS := mergeS_PB (o := o) ha hb (i := i) (x := x) (y := y) (io := io) (ia := ia) (ib := ib) hP
    have hfin := imerge_l1 ho ha hb hla hlb n (i + 1) m ((i + 1 : Nat) : Int) (x + 1) (y + 1) (mergeS o a b i x y io ia ib out) (by omega) (by omega) hA hB (by omega) (by omega) (by omega) (by omega) (hS.mono (by omega))
    rw [slM_of h0 h1 (by omega), Option.bind_some, slM_of h2 ha1 (by omega), Option.bind_some, slM_of h3 hb1 (by omega), Option.bind_some,
      show ((o.take ((i : Int)).toNat).drop io.toNat) = cutI o io i from rfl, show ((a.take x.toNat).drop ia.toNat) = cutI a ia x from rfl, show ((b.take y.toNat).drop ib.toNat) = cutI b ib y from rfl,
      sEqual_eq (show (cutI a ia x).length ≤ maxi by unfold maxi; omega), Option.bind_some]
    -- what follows, of any out
    have hrest : ∀ q, q = putP out (partP (cutI o io i) (cutI a ia x) (cutI b ib y)) →
        (bif decide ((i : Int) < (o.length : Int)) then (slM o (i : Int) ((i + 1 : Nat) : Int)).bind fun q154 => (impl_mergeOf_c1 q154 q).bind fun z158 => impl_mergeOf_l1 o a b ma mb (fun _ _ _ _ y49 => some y49) m ((i + 1 : Nat) : Int) (w64 (x + 1)) (w64 (y + 1)) ((i + 1 : Nat) : Int) z158
        else impl_mergeOf_l1 o a b ma mb (fun _ _ _ _ y49 => some y49) m ((i + 1 : Nat) : Int) (w64 (x + 1)) (w64 (y + 1)) ((i + 1 : Nat) : Int) q) =
        some (mergeG o a b ((i + 1 : Nat) : Int) (ma.drop (i + 1)) (mb.drop (i + 1)) ((i + 1 : Nat) : Int) (x + 1) (y + 1) (mergeS o a b i x y io ia ib out)) := by
      rintro q rfl
      rw [ex, ey]
      by_cases hio : i < o.length
      · have hs : o[i]? = some o[i] := List.getElem?_eq_getElem hio
        rw [decide_eq_true (by omega), cond_true, cut1 hs, Option.bind_some, c1_eq hP1 (by omega) (by simp), Option.bind_some]
        have hm : mergeS o a b i x y io ia ib out = putP (putP out (partP (cutI o io i) (cutI a ia x) (cutI b ib y))) (lnP [o[i]]) := by
          unfold mergeS
          rw [show ((i : Int)).toNat = i by omega, hs]
        rw [← hm]
        exact hfin
      · rw [decide_eq_false (by omega), cond_false]
        have hm : mergeS o a b i x y io ia ib out = putP out (partP (cutI o io i) (cutI a ia x) (cutI b ib y)) := by
          unfold mergeS
          rw [show ((i : Int)).toNat = i by omega, List.getElem?_eq_none (by omega)]
        rw [← hm]
        exact hfin
    have hclash : apM out [(⟨true, [], cutI o io i, cutI a ia x, cutI b ib y⟩ : Part)] = some (out ++ [⟨true, [], cutI o io i, cutI a ia x, cutI b ib y⟩]) := apM_of (by have := hP.1; simp [lim]; omega)
    cases e1 : cutI a ia x == cutI o io i with
    | true =>
      rw [cond_true, cond_true, c1_eq hP (by omega) (by omega), Option.bind_some]
      exact hrest _ (by simp [partP, e1])
    | false =>
      rw [cond_false, sEqual_eq (show (cutI a ia x).length ≤ maxi by unfold maxi; omega), Option.bind_some]
      cases e2 : cutI a ia x == cutI b ib y with
      | true =>
        rw [cond_true, c1_eq hP (by omega) (by omega), Option.bind_some]
        exact hrest _ (by simp [partP, e1, e2])
      | false =>
        rw [cond_false, sEqual_eq (show (cutI b ib y).length ≤ maxi by unfold maxi; omega), Option.bind_some]
        cases e3 : cutI b ib y == cutI o io i with
        | true =>
          rw [cond_true, c1_eq hP (by omega) (by omega), Option.bind_some]
          exact hrest _ (by simp [partP, e1, e2, e3])
        | false =>
          rw [cond_false, copyText_eq (by omega), Option.bind_some, copyText_eq (by omega), Option.bind_some, copyText_eq (by omega), Option.bind_some, hclash, Option.bind_some]
          exact hrest _ (by simp [partP, e1, e2, e3, putP_clash])
theorem mergeOf_eq {o a b : List Str} (ho : o.length ≤ 1000) (ha : a.length ≤ 1000) (hb : b.length ≤ 1000) : impl_mergeOf o a b = some (mergeF o a b) := by
  obtain ⟨a1, a2⟩ := asc_full o a
  obtain ⟨b1, b2⟩ := asc_full o b
  have l1 := (mt2_asc o a).2
  have l2 := (mt2_asc o b).2
  unfold impl_mergeOf
  rw [imatch_eq ho ha, Option.bind_some, ap1' (by omega), Option.bind_some, imatch_eq ho hb, Option.bind_some, ap1' (by omega), Option.bind_some]
  simp only [jn]
  exact imerge_l1 ho ha hb a2 b2 (o.length + 1) 0 ((((mt2 o a ++ [(a.length : Int)]).length : Int) - 0).toNat + 1) 0 0 0 [] (by omega) (by omega) a1 b1 (by omega) (by omega) (by omega) (by omega) ⟨by simp, by simp⟩
end Go.Vm
