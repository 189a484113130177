/- Plain laws of the statements' own helpers: they count bulk, copy, compare, mark; printed by a program of ours. Conditions: each law's own premises. -/
import Derived.Test.YtmjjhnahdmlmaaaXPm
import Derived.Test.YtmjjhnahdmlmaaaXMd
namespace Go.Vm
open Go Go.Sx
set_option linter.unusedSimpArgs false
set_option linter.unusedVariables false

theorem eszStringS {xs : List Str} {n : Int} (hf : Bk.fit xs) (h0 : 0 ≤ n) (hN : n ≤ 1048576) : laws_szStringS xs n = some (if (Bk.bulk xs : Int) ≤ n then n - Bk.bulk xs else -1) := by
  have hl := fit_len hf
  unfold laws_szStringS
  have hw : w64 (n - (xs.length : Int)) = n - xs.length := w64_id (by unfold maxi at hl; omega) (by omega)
  have hb : (Bk.bulk xs : Int) = xs.length + sumB Bk.bulk xs := by simp [Bk.bulk]
  simp only [hw, jn, fuel0]
  by_cases h : n - (xs.length : Int) < 0
  · rw [decide_eq_true h, cond_true, if_neg (by omega)]
  · rw [decide_eq_false h, cond_false]
    rw [loop_size (α := Str) (xs := xs) (b := Bk.bulk) (N := 1048576) (r0 := some (-1)) (Z := fun a => some a) (f := fun m a i => laws_szStringS_l1 xs (fun y2 _ _ => some y2) m a 0 i) (fun m a i x hx ha hA => by
      have hx2 : x.length ≤ maxi := fit_at hf hx
      have hw2 : w64 (a - (x.length : Int)) = a - x.length := w64_id (by unfold maxi at hx2; omega) (by omega)
      simp only [laws_szStringS_l1, lt_of hx, gi_of hx, cond_true, Option.bind_some, hw2, w64_ix (ix_of hx) hl]
      by_cases h1 : a - (x.length : Int) < 0
      · rw [decide_eq_true h1, cond_true, if_neg (by simp only [Bk.bulk]; omega)]
      · rw [decide_eq_false h1, cond_false, if_pos (by simp only [Bk.bulk]; omega)]; rfl) (fun m a => by
      simp only [laws_szStringS_l1, end_of, cond_false]) (by omega) (by omega) (by omega)]
    by_cases h2 : (sumB Bk.bulk xs : Int) ≤ n - xs.length
    · rw [if_pos h2, if_pos (by omega), hb]; congr 1; omega
    · rw [if_neg h2, if_neg (by omega)]
theorem eszReview {x : Review} {n : Int} (hf : Bk.fit x) (h0 : 0 ≤ n) (hN : n ≤ 1048576) : laws_szReview x n = some (if (Bk.bulk x : Int) ≤ n then n - Bk.bulk x else -1) := by
  obtain ⟨f0, f1, f2, f3⟩ := hf
  have hb : Bk.bulk x = Bk.bulk x.Branch + (Bk.bulk x.Into + (Bk.bulk x.By + (Bk.bulk x.Yes))) := rfl
  have b0 : Bk.bulk x.Branch = x.Branch.length := rfl
  have g0 : x.Branch.length ≤ maxi := f0
  unfold maxi at g0
  have b1 : Bk.bulk x.Into = x.Into.length := rfl
  have g1 : x.Into.length ≤ maxi := f1
  unfold maxi at g1
  have b2 : Bk.bulk x.By = x.By.length := rfl
  have g2 : x.By.length ≤ maxi := f2
  unfold maxi at g2
  unfold laws_szReview
  have w0 : w64 (n - (x.Branch.length : Int)) = n - (x.Branch.length : Int) := w64_id (by omega) (by omega)
  simp only [w0]
  by_cases h0 : n - (x.Branch.length : Int) < 0
  case pos => rw [decide_eq_true h0, cond_true, if_neg (by omega)]
  rw [decide_eq_false h0, cond_false]
  have w1 : w64 (n - (x.Branch.length : Int) - (x.Into.length : Int)) = n - (x.Branch.length : Int) - (x.Into.length : Int) := w64_id (by omega) (by omega)
  simp only [w1]
  by_cases h1 : n - (x.Branch.length : Int) - (x.Into.length : Int) < 0
  case pos => rw [decide_eq_true h1, cond_true, if_neg (by omega)]
  rw [decide_eq_false h1, cond_false]
  have w2 : w64 (n - (x.Branch.length : Int) - (x.Into.length : Int) - (x.By.length : Int)) = n - (x.Branch.length : Int) - (x.Into.length : Int) - (x.By.length : Int) := w64_id (by omega) (by omega)
  simp only [w2]
  by_cases h2 : n - (x.Branch.length : Int) - (x.Into.length : Int) - (x.By.length : Int) < 0
  case pos => rw [decide_eq_true h2, cond_true, if_neg (by omega)]
  rw [decide_eq_false h2, cond_false]
  rw [eszStringS f3 (by omega) (by omega), Option.bind_some]
  by_cases h3 : (Bk.bulk x.Yes : Int) ≤ n - (x.Branch.length : Int) - (x.Into.length : Int) - (x.By.length : Int)
  case neg => rw [if_neg h3, if_neg (by omega)]; rfl
  rw [if_pos h3, decide_eq_false (by omega), cond_false]
  rw [if_pos (by omega)]
  congr 1; omega
theorem etoStringS {xs : List Str} (h : Bk.bulk xs ≤ 1048576) : laws_toStringS xs = some xs := by
  have hl := bulk_len h
  unfold laws_toStringS
  simp only [mkM_of (to_lim hl), jn, fuel0, Option.bind_some]
  rw [loop_copy (g := id) (Z := fun ys => some ys) (f := fun m i out => laws_toStringS_l1 xs (fun _ y6 => some y6) m i out) (fun m i x out hx ho => by
    have hi := ix_of hx
    simp only [laws_toStringS_l1, lt_of hx, gi_of hx, cond_true, Option.bind_some, w64_ix hi (to_maxi hl), siM_of (show i < out.length by omega), gi_of (List.getElem?_eq_getElem (show i < out.length by omega)), id]) (fun m out => by
    simp only [laws_toStringS_l1, end_of, cond_false]) (by omega)]
  simp
theorem etoReview {x : Review} (h : Bk.bulk x ≤ 1048576) : laws_toReview x = some x := by
  have hb : Bk.bulk x = Bk.bulk x.Branch + (Bk.bulk x.Into + (Bk.bulk x.By + (Bk.bulk x.Yes))) := rfl
  unfold laws_toReview
  simp only [etoStringS (show Bk.bulk x.Yes ≤ 1048576 by omega), Option.bind_some]
theorem eeqStringS {xs ys : List Str} (h : Bk.fit xs) : laws_eqStringS xs ys = some (xs == ys) := by
  have hl := fit_len h
  unfold laws_eqStringS
  simp only [bne_len, jn, fuel0]
  by_cases hn : xs.length = ys.length
  · rw [hn, beq_self_eq_true, Bool.not_true, cond_false, ← hn]
    rw [loop_eq (α := Str) (r0 := some false) (Z := some true) (f := fun m i => laws_eqStringS_l1 xs ys (fun _ _ => some true) m false i) hn (fun m i x y hx hy => by
      simp only [laws_eqStringS_l1, lt_of hx, gi_of hx, gi_of hy, cond_true, Option.bind_some, w64_ix (ix_of hx) hl, bne]
      cases x == y <;> rfl) (fun m => by simp only [laws_eqStringS_l1, end_of, cond_false]) (by omega)]
    cases xs == ys <;> rfl
  · rw [beq_false_of_ne hn, Bool.not_false, cond_true, beq_false_of_ne (fun e => hn (by rw [e]))]
theorem eeqReview {x y : Review} (h : Bk.fit x) : laws_eqReview x y = some (x == y) := by
  obtain ⟨f0, f1, f2, f3⟩ := h
  unfold laws_eqReview
  simp only [eeqStringS f3, Option.bind_some, bne]
  obtain ⟨a0, a1, a2, a3⟩ := x
  obtain ⟨b0, b1, b2, b3⟩ := y
  have : ((⟨a0, a1, a2, a3⟩ : Review) == ⟨b0, b1, b2, b3⟩) = (a0 == b0 && (a1 == b1 && (a2 == b2 && (a3 == b3)))) := by
    have hb : ∀ b c : Bool, (b = true ↔ c = true) → b = c := by decide
    apply hb
    simp
  rw [this]
  cases a0 == b0 <;> cases a1 == b1 <;> cases a2 == b2 <;> cases a3 == b3 <;> rfl

theorem tmod10 {k : Int} (h : 0 < k) : 0 ≤ Int.tdiv k 10 ∧ Int.tdiv k 10 ≤ k - 1 ∧ 0 ≤ Int.tmod k 10 ∧ Int.tmod k 10 ≤ 9 := by
  obtain ⟨n, rfl⟩ := Int.eq_ofNat_of_zero_le (show 0 ≤ k by omega)
  have h1 : Int.tdiv (n : Int) 10 = ((n / 10 : Nat) : Int) := rfl
  have h2 : Int.tmod (n : Int) 10 = ((n % 10 : Nat) : Int) := rfl
  rw [h1, h2]
  omega
theorem markText_l1_some {K : Int → Str → Option Str} (hK : ∀ (k : Int) (s : Str), s.length ≤ 1073741824 → ∃ t, K k s = some t ∧ t.length ≤ 2000000000) :
    ∀ (m : Nat) (k : Int) (out : Str), 0 ≤ k → k < m → out.length + k ≤ 1073741824 → ∃ t, laws_markText_l1 K m k out = some t ∧ t.length ≤ 2000000000
  | 0, k, out, h0, hm, hl => by omega
  | m + 1, k, out, h0, hm, hl => by
    simp only [laws_markText_l1]
    by_cases hk : 0 < k
    · obtain ⟨h1, h2, h3, h4⟩ := tmod10 hk
      have hs : saM (([(by8 (w64 (48 + (Int.tmod k 10))))] : List Byte) : Str) out = some ((by8 (w64 (48 + (Int.tmod k 10)))) :: out) := by
        unfold saM
        rw [if_pos]
        · rfl
        · show 1 + out.length ≤ 4294967296
          omega
      rw [decide_eq_true hk, cond_true, hs, Option.bind_some, w64_id (by omega) (by omega)]
      exact markText_l1_some hK m _ _ h1 (by omega) (by simp only [List.length_append, List.length_cons, List.length_nil]; omega)
    · rw [decide_eq_false hk, cond_false]
      exact hK k out (by omega)
/-- The text of a mark. -/
def mt (k : Int) : Str := ((laws_markText k).getD []).take 2000000000
theorem markText_eq {k : Int} (h0 : 0 ≤ k) (hN : k ≤ 536870912) : laws_markText k = some (mt k) := by
  have : ∃ t, laws_markText k = some t ∧ t.length ≤ 2000000000 := by
    unfold laws_markText
    by_cases hk : k ≤ 0
    · rw [decide_eq_true hk]; exact ⟨_, rfl, by simp⟩
    · rw [decide_eq_false hk, cond_false]
      simp only [jn]
      refine markText_l1_some (fun k s hs => ?_) _ k _ h0 (by omega) (by simp; omega)
      refine ⟨[109] ++ s, ?_, by simp; omega⟩
      have : saM ([109] : Str) s = some ([109] ++ s) := by
        unfold saM
        rw [if_pos]
        simp only [List.length_cons, List.length_nil, lim]
        omega
      rw [this, Option.bind_some]
  obtain ⟨t, ht, hl⟩ := this
  unfold mt
  rw [ht]
  show some t = some (t.take 2000000000)
  rw [List.take_of_length_le hl]
def mb (k : Int) : Bool := Int.tmod k 3 == 0
def mdStr : MkD Str := MkD.one mt
def mdInt : MkD Int := MkD.one (fun k => k)
def mdBool : MkD Bool := MkD.one mb
theorem cn_mdStr (xs : List Str) : mdStr.list.cn xs = xs.length := by
  show sumB (fun _ => 1) xs = xs.length
  induction xs with
  | nil => rfl
  | cons y ys ih => simp only [sumB, ih, List.length_cons]; omega
theorem fit_mdStr : mdStr.Fits := MkD.fits_one fun k _ _ => by
  show (((laws_markText k).getD []).take 2000000000).length ≤ maxi
  rw [List.length_take]
  unfold maxi
  omega
theorem fit_mdInt : mdInt.Fits := MkD.fits_one fun k h0 hN => ⟨by omega, by omega⟩
theorem fit_mdBool : mdBool.Fits := MkD.fits_one fun _ _ _ => trivial
theorem few_mdStr : mdStr.Few 1 := MkD.few_one
theorem few_mdInt : mdInt.Few 1 := MkD.few_one
theorem few_mdBool : mdBool.Few 1 := MkD.few_one
def mdVReview : MkD Review := MkD.via (MkD.pair MkD.keep (MkD.pair MkD.keep (MkD.pair MkD.keep mdStr.list))) (fun x => (x.Branch, (x.Into, (x.By, x.Yes)))) (fun p => ⟨p.1, p.2.1, p.2.2.1, p.2.2.2⟩) (fun _ => rfl)
theorem fit_mdVReview : mdVReview.Fits := MkD.fits_via (MkD.fits_pair MkD.fits_keep (MkD.fits_pair MkD.fits_keep (MkD.fits_pair MkD.fits_keep (MkD.fits_list fit_mdStr)))) (fun _ h => h) (fun _ h => h)
theorem few_mdVReview : mdVReview.Few 1 := MkD.few_via (MkD.few_pair MkD.few_keep (MkD.few_pair MkD.few_keep (MkD.few_pair MkD.few_keep (MkD.few_list few_mdStr)))) (fun _ => rfl)
theorem emarkStringS {xs : List Str} {k : Int} (h0 : 0 ≤ k) (hN : k + mdStr.list.cn xs ≤ 536870912) (hf : Bk.fit xs) : laws_markStringS xs k = some (mdStr.list.wr k xs) := by
  unfold laws_markStringS
  simp only [jn, fuel0]
  rw [loop_turn (xs := xs) (g := mdStr.wr) (b := mdStr.cn) (N := 536870912) (Z := fun k out => some (k, out)) (f := fun m k i out => laws_markStringS_l1 (fun y1 _ y3 => some (y1, y3)) m k i out) mdStr.fst (fun m k i x out hx ho hlen hk hkN => by
    have hi := ix_of hx
    have hi' : i < out.length := by omega
    have ei := w64_ix hi (fit_len hf)
    have hc : k + 1 ≤ 536870912 := hkN
    simp only [laws_markStringS_l1, lt_of ho, cond_true, Option.bind_some, gi_of ho, siM_of hi', gi_of (setAt hi'), siM_of (show i < (out.set i _).length by simpa using hi'), List.set_set, ei, markText_eq hk (by omega), w64_id (show -9223372036854775808 ≤ k + 1 by omega) (show k + 1 ≤ 9223372036854775807 by omega)]
    try rfl) (fun m k out hl => by
    simp only [laws_markStringS_l1, ← hl, end_of, cond_false]) (by omega) h0 hN]
  rfl
theorem emarkReview {x : Review} {k : Int} (hk : 0 ≤ k) (hkN : k + mdVReview.cn x ≤ 536870912)(hf : Bk.fit x) : laws_markReview x k = some (mdVReview.wr k x) := by
  unfold laws_markReview
  have hc : mdVReview.cn x = 0 + (0 + (0 + (mdStr.list.cn x.Yes))) := rfl
  have e3 := mdStr.list.fst (k) x.Yes
  obtain ⟨f0, f1, f2, f3⟩ := hf
  simp only [Option.bind_some, emarkStringS (k := k) (show 0 ≤ k by omega) (show k + mdStr.list.cn x.Yes ≤ 536870912 by omega) f3]
  try rfl
theorem eheldStringS {xs : List Str} {k : Int} (hH : mdStr.list.Held k xs) (h0 : 0 ≤ k) (hN : k + mdStr.list.cn xs ≤ 536870912) (hf : Bk.fit xs) : laws_heldStringS xs k = some (mdStr.list.wr k xs).1 := by
  have hh := MkD.list_held mdStr hH
  unfold laws_heldStringS
  simp only [jn, fuel0]
  rw [loop_held (xs := xs) (q := mdStr.Held) (b := mdStr.cn) (N := 536870912) (Z := fun k => some k) (f := fun m k i => laws_heldStringS_l1 xs (fun y1 _ _ => some y1) m k 0 i) (fun m k i x hx hq hk hkN => by
    have hi := ix_of hx
    have ei := w64_ix hi (fit_len hf)
    rw [← mdStr.fst k x]
    have hc : k + 1 ≤ 536870912 := hkN
    have q0 : mt k = x := hq
    simp only [laws_heldStringS_l1, lt_of hx, cond_true, Option.bind_some, gi_of hx, ei, bne_self_eq_false, cond_false, markText_eq hk (by omega), q0, w64_id (show -9223372036854775808 ≤ k + 1 by omega) (show k + 1 ≤ 9223372036854775807 by omega)]
    try rfl) (fun m k => by
    simp only [laws_heldStringS_l1, end_of, cond_false]) (by omega) h0 hN hh, mdStr.list.fst]
  rfl
theorem eheldReview {x : Review} {k : Int} (hq : mdVReview.Held k x) (hk : 0 ≤ k) (hkN : k + mdVReview.cn x ≤ 536870912)(hf : Bk.fit x) : laws_heldReview x k = some (mdVReview.wr k x).1 := by
  unfold laws_heldReview
  have hc : mdVReview.cn x = 0 + (0 + (0 + (mdStr.list.cn x.Yes))) := rfl
  have e3 := mdStr.list.fst (k) x.Yes
  obtain ⟨f0, f1, f2, f3⟩ := hf
  have q3 : mdStr.list.Held (k) x.Yes := congrArg Review.Yes hq
  simp only [Option.bind_some, bne_self_eq_false, cond_false, eheldStringS q3 (show 0 ≤ k by omega) (show k + mdStr.list.cn x.Yes ≤ 536870912 by omega) f3, decide_eq_false (show ¬ (mdStr.list.wr (k) x.Yes).1 < 0 by omega)]
  try rfl
end Go.Vm
