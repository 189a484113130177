/- Plain laws of MemoPut: both sides keep what they must, and what they hand back shares nothing. Conditions: each law's own premises. -/
import Derived.Test.YtjdljoplpcakpaaXQb
namespace Go.Vm
open Go Go.Sx
set_option linter.unusedSimpArgs false
set_option linter.unusedVariables false

theorem tmod10 {k : Int} (h : 0 < k) : 0 ≤ Int.tdiv k 10 ∧ Int.tdiv k 10 ≤ k - 1 ∧ 0 ≤ Int.tmod k 10 ∧ Int.tmod k 10 ≤ 9 := by
  obtain ⟨n, rfl⟩ := Int.eq_ofNat_of_zero_le (show 0 ≤ k by omega)
  have h1 : Int.tdiv (n : Int) 10 = ((n / 10 : Nat) : Int) := rfl
  have h2 : Int.tmod (n : Int) 10 = ((n % 10 : Nat) : Int) := rfl
  rw [h1, h2]
  omega
theorem markText_l1_some {K : Int → Str → Option Str} (hK : ∀ (k : Int) (s : Str), s.length ≤ 1073741824 → ∃ t, K k s = some t) :
    ∀ (m : Nat) (k : Int) (out : Str), 0 ≤ k → k < m → out.length + k ≤ 1073741824 → ∃ t, laws_markText_l1 K m k out = some t
  | 0, k, out, h0, hm, hl => by omega
  | m + 1, k, out, h0, hm, hl => by
    simp only [laws_markText_l1]
    by_cases hk : 0 < k
    · obtain ⟨h1, h2, h3, h4⟩ := tmod10 hk
      have hs : saM (([(by8 (w64 (48 + (Int.tmod k 10))))] : List Byte) : Str) out = some ((by8 (w64 (48 + (Int.tmod k 10)))) :: out) := by
        unfold saM
        rw [if_pos]
        · rfl
        · show 1 + out.length ≤ 4294967296
          omega
      rw [decide_eq_true hk, cond_true, hs, Option.bind_some, w64_id (by omega) (by omega)]
      exact markText_l1_some hK m _ _ h1 (by omega) (by simp only [List.length_append, List.length_cons, List.length_nil]; omega)
    · rw [decide_eq_false hk, cond_false]
      exact hK k out (by omega)
/-- The text of a mark. -/
def mt (k : Int) : Str := (laws_markText k).getD []
theorem markText_eq {k : Int} (h0 : 0 ≤ k) (hN : k ≤ 536870912) : laws_markText k = some (mt k) := by
  have : ∃ t, laws_markText k = some t := by
    unfold laws_markText
    by_cases hk : k ≤ 0
    · rw [decide_eq_true hk]; exact ⟨_, rfl⟩
    · rw [decide_eq_false hk, cond_false]
      simp only [jn]
      refine markText_l1_some (fun k s hs => ?_) _ k _ h0 (by omega) (by simp; omega)
      refine ⟨[109] ++ s, ?_⟩
      have : saM ([109] : Str) s = some ([109] ++ s) := by
        unfold saM
        rw [if_pos]
        simp only [List.length_cons, List.length_nil, lim]
        omega
      rw [this, Option.bind_some]
  obtain ⟨t, ht⟩ := this
  unfold mt
  rw [ht]; rfl
theorem markStringS_eq {xs : List Str} {k : Int} (h0 : 0 ≤ k) (hN : k + xs.length ≤ 536870912) :
    laws_markStringS xs k = some (turnL (fun k _ => (k + 1, mt k)) k xs) := by
  have hb : ∀ ys : List Str, sumB (fun _ => 1) ys = ys.length := by
    intro ys
    induction ys with
    | nil => rfl
    | cons y ys ih => simp only [sumB, ih, List.length_cons]; omega
  unfold laws_markStringS
  simp only [jn, fuel0]
  rw [loop_turn (xs := xs) (g := fun k _ => (k + 1, mt k)) (b := fun _ => 1) (N := 536870912) (Z := fun k out => some (k, out)) (f := fun m k i out => laws_markStringS_l1 (fun y1 _ y3 => some (y1, y3)) m k i out) (fun k x => rfl) (fun m k i x out hx ho hl hk hkN => by
    have hi := ix_of hx
    have hi' : i < out.length := by omega
    simp only [laws_markStringS_l1, lt_of ho, cond_true, markText_eq hk (by omega), Option.bind_some, gi_of ho, siM_of hi', w64_ix hi (show xs.length ≤ maxi by unfold maxi; omega), w64_id (show -9223372036854775808 ≤ k + 1 by omega) (show k + 1 ≤ 9223372036854775807 by omega)]) (fun m k out hl => by
    simp only [laws_markStringS_l1, ← hl, end_of, cond_false]) (by omega) h0 (by rw [hb]; omega)]
theorem turnS_fst : ∀ (xs : List Str) (k : Int), (turnL (fun k _ => (k + 1, mt k)) k xs).1 = k + xs.length
  | [], k => by simp [turnL]
  | x :: xs, k => by simp only [turnL, turnS_fst xs, List.length_cons]; omega
theorem turnS_at : ∀ (xs : List Str) (k : Int) (i : Nat) (y : Str), (turnL (fun k _ => (k + 1, mt k)) k xs).2[i]? = some y → y = mt (k + i)
  | [], k, i, y, h => by simp [turnL] at h
  | x :: xs, k, 0, y, h => by simp [turnL] at h; rw [← h]; simp
  | x :: xs, k, i + 1, y, h => by
    simp only [turnL, List.getElem?_cons_succ] at h
    have := turnS_at xs _ i y h
    rw [this]
    congr 1
    omega
/-- The texts of xs are the marks from k on. -/
def HeldS (k : Int) (xs : List Str) : Prop := ∀ (i : Nat) y, xs[i]? = some y → y = mt (k + i)
theorem heldStringS_eq {xs : List Str} {k : Int} (h : HeldS k xs) (h0 : 0 ≤ k) (hN : k + xs.length ≤ 536870912) : laws_heldStringS xs k = some (k + xs.length) := by
  have hb : ∀ ys : List Str, sumB (fun _ => 1) ys = ys.length := by
    intro ys
    induction ys with
    | nil => rfl
    | cons y ys ih => simp only [sumB, ih, List.length_cons]; omega
  unfold laws_heldStringS
  simp only [jn, fuel0]
  rw [loop_held (xs := xs) (q := fun k x => x = mt k) (b := fun _ => 1) (N := 536870912) (Z := fun k => some k) (f := fun m k i => laws_heldStringS_l1 xs (fun y1 _ _ => some y1) m k 0 i) (fun m k i x hx hq hk hkN => by
    have hi := ix_of hx
    simp only [laws_heldStringS_l1, lt_of hx, cond_true, markText_eq hk (by omega), Option.bind_some, gi_of hx, hq, bne_self_eq_false, cond_false, w64_ix hi (show xs.length ≤ maxi by unfold maxi; omega), w64_id (show -9223372036854775808 ≤ k + 1 by omega) (show k + 1 ≤ 9223372036854775807 by omega)]
    rfl) (fun m k => by
    simp only [laws_heldStringS_l1, end_of, cond_false]) (by omega) h0 (by rw [hb]; omega) (fun i x hx => by
      rw [h i x hx, hb, List.length_take, Nat.min_eq_left (Nat.le_of_lt (ix_of hx))]), hb]

/-! ### Memos -/
def markM (k : Int) (x : Memo) : Int × Memo :=
  (k + ((x.Old.length + x.One.length + x.Two.length + x.Done.length : Nat) : Int), ⟨(turnL (fun k _ => (k + 1, mt k)) k x.Old).2, (turnL (fun k _ => (k + 1, mt k)) (k + x.Old.length) x.One).2, (turnL (fun k _ => (k + 1, mt k)) (k + x.Old.length + x.One.length) x.Two).2, (turnL (fun k _ => (k + 1, mt k)) (k + x.Old.length + x.One.length + x.Two.length) x.Done).2⟩)
def lenM (x : Memo) : Nat := x.Old.length + x.One.length + x.Two.length + x.Done.length
theorem sPair {xs : List Str} {k : Int} (h0 : 0 ≤ k) (hN : k + xs.length ≤ 536870912) : laws_markStringS xs k = some (k + xs.length, (turnL (fun k _ => (k + 1, mt k)) k xs).2) := by
  rw [markStringS_eq h0 hN, ← turnS_fst xs k]
theorem markMemo_eq {x : Memo} {k : Int} (h0 : 0 ≤ k) (hN : k + lenM x ≤ 536870912) : laws_markMemo x k = some (markM k x) := by
  unfold lenM at hN
  unfold laws_markMemo
  simp only [sPair h0 (show k + x.Old.length ≤ 536870912 by omega), Option.bind_some,
    sPair (show 0 ≤ k + x.Old.length by omega) (show k + x.Old.length + x.One.length ≤ 536870912 by omega),
    sPair (show 0 ≤ k + x.Old.length + x.One.length by omega) (show k + x.Old.length + x.One.length + x.Two.length ≤ 536870912 by omega),
    sPair (show 0 ≤ k + x.Old.length + x.One.length + x.Two.length by omega) (show k + x.Old.length + x.One.length + x.Two.length + x.Done.length ≤ 536870912 by omega)]
  unfold markM
  have : k + x.Old.length + x.One.length + x.Two.length + x.Done.length = k + ((x.Old.length + x.One.length + x.Two.length + x.Done.length : Nat) : Int) := by omega
  rw [this]
theorem markMemoS_eq {xs : List Memo} {k : Int} (h0 : 0 ≤ k) (hN : k + sumB lenM xs ≤ 536870912) (hl : xs.length ≤ 1048576) :
    laws_markMemoS xs k = some (turnL markM k xs) := by
  unfold laws_markMemoS
  simp only [jn, fuel0]
  rw [loop_turn (xs := xs) (g := markM) (b := lenM) (N := 536870912) (Z := fun k out => some (k, out)) (f := fun m k i out => laws_markMemoS_l1 (fun y1 _ y3 => some (y1, y3)) m k i out) (fun k x => rfl) (fun m k i x out hx ho hlen hk hkN => by
    have hi := ix_of hx
    have hi' : i < out.length := by omega
    unfold lenM at hkN
    simp only [laws_markMemoS_l1, lt_of ho, cond_true, Option.bind_some, gi_of ho, sPair hk (show k + x.Old.length ≤ 536870912 by omega),
      siM_of hi', gi_of (setAt hi'), siM_of (show i < (out.set i _).length by simpa using hi'), List.set_set,
      sPair (show 0 ≤ k + x.Old.length by omega) (show k + x.Old.length + x.One.length ≤ 536870912 by omega),
      sPair (show 0 ≤ k + x.Old.length + x.One.length by omega) (show k + x.Old.length + x.One.length + x.Two.length ≤ 536870912 by omega),
      sPair (show 0 ≤ k + x.Old.length + x.One.length + x.Two.length by omega) (show k + x.Old.length + x.One.length + x.Two.length + x.Done.length ≤ 536870912 by omega),
      w64_ix hi (show xs.length ≤ maxi by unfold maxi; omega)]
    unfold markM
    have : k + x.Old.length + x.One.length + x.Two.length + x.Done.length = k + ((x.Old.length + x.One.length + x.Two.length + x.Done.length : Nat) : Int) := by omega
    rw [this]) (fun m k out hl => by
    simp only [laws_markMemoS_l1, ← hl, end_of, cond_false]) (by omega) h0 hN]

theorem turnL_at {α : Type} {g : Int → α → Int × α} {b : α → Nat} (hg : ∀ k x, (g k x).1 = k + b x) : ∀ (xs : List α) (k : Int) (i : Nat) (x : α), xs[i]? = some x → (turnL g k xs).2[i]? = some (g (k + sumB b (xs.take i)) x).2
  | [], k, i, x, h => by simp at h
  | y :: xs, k, 0, x, h => by
    have e : y = x := by simpa using h
    subst e
    simp [turnL, sumB]
  | y :: xs, k, i + 1, x, h => by
    simp only [turnL, List.getElem?_cons_succ, List.take_succ_cons, sumB]
    rw [turnL_at hg xs _ i x (by simpa using h), hg]
    congr 2
    congr 1
    omega
theorem turnL_sum {α : Type} {g : Int → α → Int × α} {b : α → Nat} (hb : ∀ k x, b (g k x).2 = b x) : ∀ (xs : List α) (k : Int) (i : Nat), sumB b ((turnL g k xs).2.take i) = sumB b (xs.take i)
  | [], k, i => by simp [turnL]
  | y :: xs, k, 0 => by simp [sumB]
  | y :: xs, k, i + 1 => by simp only [turnL, List.take_succ_cons, sumB, hb, turnL_sum hb xs]
theorem turnL_fst {α : Type} {g : Int → α → Int × α} {b : α → Nat} (hg : ∀ k x, (g k x).1 = k + b x) : ∀ (xs : List α) (k : Int), (turnL g k xs).1 = k + sumB b xs
  | [], k => by simp [turnL, sumB]
  | y :: xs, k => by
    simp only [turnL, sumB]
    rw [turnL_fst hg xs, hg]
    omega
theorem lenM_mark (k : Int) (x : Memo) : lenM (markM k x).2 = lenM x := by
  simp [lenM, markM, turnL_len]
theorem heldMemoS_eq {xs : List Memo} {k : Int} (h0 : 0 ≤ k) (hN : k + sumB lenM xs ≤ 536870912) (hl : xs.length ≤ 1048576) :
    laws_heldMemoS (turnL markM k xs).2 k = some (k + sumB lenM xs) := by
  have hlen := turnL_len markM xs k
  have hsum : ∀ i, sumB lenM ((turnL markM k xs).2.take i) = sumB lenM (xs.take i) := turnL_sum lenM_mark xs k
  have hall : sumB lenM (turnL markM k xs).2 = sumB lenM xs := by
    have := hsum xs.length
    rwa [← hlen, List.take_length, hlen, List.take_length] at this
  unfold laws_heldMemoS
  simp only [jn, fuel0]
  rw [loop_held (xs := (turnL markM k xs).2) (q := fun k x => HeldS k x.Old ∧ HeldS (k + x.Old.length) x.One ∧ HeldS (k + x.Old.length + x.One.length) x.Two ∧ HeldS (k + x.Old.length + x.One.length + x.Two.length) x.Done) (b := lenM) (N := 536870912) (Z := fun k => some k) (f := fun m k' i => laws_heldMemoS_l1 (turnL markM k xs).2 (fun y1 _ _ => some y1) m k' 0 i) (fun m k' i x hx hq hk hkN => by
    have hi := ix_of hx
    obtain ⟨q1, q2, q3, q4⟩ := hq
    unfold lenM at hkN
    have hneg : ∀ z : Int, 0 ≤ z → decide (z < 0) = false := fun z hz => decide_eq_false (by omega)
    simp only [laws_heldMemoS_l1, lt_of hx, cond_true, Option.bind_some, gi_of hx, heldStringS_eq q1 hk (show k' + x.Old.length ≤ 536870912 by omega), hneg (k' + x.Old.length) (by omega), cond_false,
      heldStringS_eq q2 (show 0 ≤ k' + x.Old.length by omega) (show k' + x.Old.length + x.One.length ≤ 536870912 by omega), hneg (k' + x.Old.length + x.One.length) (by omega),
      heldStringS_eq q3 (show 0 ≤ k' + x.Old.length + x.One.length by omega) (show k' + x.Old.length + x.One.length + x.Two.length ≤ 536870912 by omega), hneg (k' + x.Old.length + x.One.length + x.Two.length) (by omega),
      heldStringS_eq q4 (show 0 ≤ k' + x.Old.length + x.One.length + x.Two.length by omega) (show k' + x.Old.length + x.One.length + x.Two.length + x.Done.length ≤ 536870912 by omega), hneg (k' + x.Old.length + x.One.length + x.Two.length + x.Done.length) (by omega),
      w64_ix hi (show (turnL markM k xs).2.length ≤ maxi by rw [hlen]; unfold maxi; omega)]
    unfold lenM
    congr 1
    omega) (fun m k' => by
    simp only [laws_heldMemoS_l1, end_of, cond_false]) (by omega) h0 (by rw [hall]; omega) (fun i y hy => by
      have hi : i < xs.length := by rw [← hlen]; exact ix_of hy
      rw [hsum]
      have := turnL_at (g := markM) (b := lenM) (fun k x => rfl) xs k i xs[i] (List.getElem?_eq_getElem hi)
      rw [hy] at this
      have e := Option.some.inj this
      rw [e]
      refine ⟨?_, ?_, ?_, ?_⟩ <;> intro j z hz <;> simp only [markM, turnL_len] at hz ⊢ <;> exact turnS_at _ _ j z hz), hall]

/-! ### MemoPut -/
theorem bulkM (x : Memo) : Bk.bulk x = Bk.bulk x.Old + (Bk.bulk x.One + (Bk.bulk x.Two + Bk.bulk x.Done)) := rfl
theorem lenM_le (x : Memo) : lenM x ≤ Bk.bulk x := by
  have h : ∀ ys : List Str, ys.length ≤ Bk.bulk ys := fun ys => Nat.le_add_right _ _
  have h1 := h x.Old; have h2 := h x.One; have h3 := h x.Two; have h4 := h x.Done
  rw [bulkM]; unfold lenM; omega
theorem l18Copy_eq {x : Memo} (h : Bk.bulk x ≤ 1048576) : spec_l18Copy x = some x := by
  rw [bulkM] at h
  unfold spec_l18Copy
  simp only [apN (bulk_len (show Bk.bulk x.Old ≤ 1048576 by omega)), apN (bulk_len (show Bk.bulk x.One ≤ 1048576 by omega)), apN (bulk_len (show Bk.bulk x.Two ≤ 1048576 by omega)), apN (bulk_len (show Bk.bulk x.Done ≤ 1048576 by omega)), Option.bind_some]
theorem own_eq {x : Memo} (h : Bk.bulk x ≤ 1048576) : impl_Memo_own x = some x := by
  rw [bulkM] at h
  unfold impl_Memo_own
  simp only [copyText_eq (bulk_len (show Bk.bulk x.Old ≤ 1048576 by omega)), copyText_eq (bulk_len (show Bk.bulk x.One ≤ 1048576 by omega)), copyText_eq (bulk_len (show Bk.bulk x.Two ≤ 1048576 by omega)), copyText_eq (bulk_len (show Bk.bulk x.Done ≤ 1048576 by omega)), Option.bind_some]
theorem l18All_eq {xs : List Memo} (h : Bk.bulk xs ≤ 1048576) : spec_l18All xs = some xs := by
  have hl := bulk_len h
  unfold spec_l18All
  simp only [jn, fuel0]
  rw [loop_filter (xs := xs) (p := fun _ => true) (g := id) (Z := fun acc => some acc) (f := fun m acc i => spec_l18All_l1 xs (fun y3 _ => some y3) m acc i) (fun m i x acc hx ha => by
    have hi := ix_of hx
    simp only [spec_l18All_l1, lt_of hx, cond_true, gi_of hx, Option.bind_some, l18Copy_eq (bulk_at h hx), ap1 (show acc.length ≤ 1048576 by omega), w64_ix hi (to_maxi hl), id]) (fun m acc => by simp only [spec_l18All_l1, end_of, cond_false]) (by omega)]
  simp
theorem ownMemos_eq {xs : List Memo} (h : Bk.bulk xs ≤ 1048576) : impl_ownMemos xs = some xs := by
  have hl := bulk_len h
  unfold impl_ownMemos
  simp only [jn, fuel0]
  rw [loop_filter (xs := xs) (p := fun _ => true) (g := id) (Z := fun acc => some acc) (f := fun m acc i => impl_ownMemos_l1 xs (fun y3 _ => some y3) m acc i) (fun m i x acc hx ha => by
    have hi := ix_of hx
    simp only [impl_ownMemos_l1, lt_of hx, cond_true, gi_of hx, Option.bind_some, own_eq (bulk_at h hx), ap1 (show acc.length ≤ 1048576 by omega), w64_ix hi (to_maxi hl), id]) (fun m acc => by simp only [impl_ownMemos_l1, end_of, cond_false]) (by omega)]
  simp
def keepB (m q : Memo) : Bool := !sameB q m.Old m.One m.Two
def putL (xs : List Memo) (m : Memo) : List Memo := xs.filter (keepB m) ++ [m]
def putB (xs : List Memo) (m : Memo) : List Memo × Bool := bif memosB xs then (bif memosB (putL xs m) then (putL xs m, true) else (xs, false)) else ([], false)
theorem putL_fit {xs : List Memo} {m : Memo} (h : Bk.fit xs) (hm : Bk.fit m) (hl : xs.length ≤ 1048576) : Bk.fit (putL xs m) := by
  refine ⟨?_, fun x hx => ?_⟩
  · have := List.length_filter_le (keepB m) xs
    simp only [putL, List.length_append, List.length_cons, List.length_nil, maxi]
    omega
  · rcases List.mem_append.1 hx with h1 | h1
    · exact h.2 x (List.mem_filter.1 h1).1
    · rw [List.mem_singleton] at h1; rw [h1]; exact hm
theorem sMemoPut_eq {xs : List Memo} {m : Memo} (h : Bk.fit xs) (hm : Bk.fit m) (hb : Bk.bulk xs ≤ 1048576) (hbm : Bk.bulk m ≤ 1048576) : spec_MemoPut xs m = some (putB xs m) := by
  have hl := bulk_len hb
  unfold spec_MemoPut putB
  rw [l18Ok_eq h, Option.bind_some]
  cases memosB xs
  case false => rfl
  simp only [Bool.not_true, cond_false, cond_true, jn, fuel0]
  have hfl := List.length_filter_le (keepB m) xs
  rw [loop_filter (xs := xs) (p := keepB m) (g := id) (f := fun m' acc i => spec_MemoPut_l1 xs m _ m' acc i) (fun m' i x acc hx ha => by
    have hi := ix_of hx
    simp only [spec_MemoPut_l1, jn, lt_of hx, cond_true, gi_of hx, Option.bind_some, l18Same_eq (fit_at h hx), l18Copy_eq (bulk_at hb hx), ap1 (show acc.length ≤ 1048576 by omega), w64_ix hi (to_maxi hl), id, keepB]
    cases sameB x m.Old m.One m.Two <;> rfl) (fun m' acc => by simp only [spec_MemoPut_l1, end_of, cond_false]; rfl) (by omega)]
  simp only [List.map_id, l18Copy_eq hbm, Option.bind_some, ap1 (show (xs.filter (keepB m)).length ≤ 1048576 by omega), l18Ok_eq (putL_fit h hm hl), l18All_eq hb, show xs.filter (keepB m) ++ [m] = putL xs m from rfl]
  cases memosB (putL xs m) <;> rfl
theorem iMemoPut_eq {xs : List Memo} {m : Memo} (h : Bk.fit xs) (hm : Bk.fit m) (hb : Bk.bulk xs ≤ 1048576) (hbm : Bk.bulk m ≤ 1048576) : impl_MemoPut xs m = some (putB xs m) := by
  have hl := bulk_len hb
  unfold impl_MemoPut putB
  rw [MemosOk_eq h, Option.bind_some]
  cases memosB xs
  case false => rfl
  simp only [Bool.not_true, cond_false, cond_true, jn, fuel0]
  have hfl := List.length_filter_le (keepB m) xs
  rw [loop_filter (xs := xs) (p := keepB m) (g := id) (f := fun m' acc i => impl_MemoPut_l1 xs m _ m' acc i) (fun m' i x acc hx ha => by
    have hi := ix_of hx
    simp only [impl_MemoPut_l1, jn, lt_of hx, cond_true, gi_of hx, Option.bind_some, Memo_is_eq (fit_at h hx), own_eq (bulk_at hb hx), ap1 (show acc.length ≤ 1048576 by omega), w64_ix hi (to_maxi hl), id, keepB]
    cases sameB x m.Old m.One m.Two <;> rfl) (fun m' acc => by simp only [impl_MemoPut_l1, end_of, cond_false]; rfl) (by omega)]
  simp only [List.map_id, own_eq hbm, Option.bind_some, ap1 (show (xs.filter (keepB m)).length ≤ 1048576 by omega), MemosOk_eq (putL_fit h hm hl), ownMemos_eq hb, show xs.filter (keepB m) ++ [m] = putL xs m from rfl]
  cases memosB (putL xs m) <;> rfl
theorem putB_fit {xs : List Memo} {m : Memo} (h : Bk.fit xs) (hm : Bk.fit m) (hl : xs.length ≤ 1048576) : Bk.fit (putB xs m).1 := by
  unfold putB
  cases memosB xs
  · exact ⟨by simp [maxi], by simp⟩
  · cases memosB (putL xs m)
    · exact h
    · exact putL_fit h hm hl
theorem putB_sum {xs : List Memo} {m : Memo} : sumB lenM (putB xs m).1 ≤ sumB lenM xs + lenM m ∧ (putB xs m).1.length ≤ xs.length + 1 := by
  have h1 := sumB_filter (b := lenM) (p := keepB m) xs
  have h2 := List.length_filter_le (keepB m) xs
  unfold putB
  cases memosB xs
  · simp [sumB]
  · cases memosB (putL xs m)
    · simp
    · simp only [cond_true, putL, sumB_app, sumB, List.length_append, List.length_cons, List.length_nil]
      omega
theorem FnExactMemoPut_eq {xs : List Memo} {m : Memo} (h : Bk.fit xs) (hm : Bk.fit m) : laws_FnExactMemoPut xs m = some true := by
  unfold laws_FnExactMemoPut
  rw [szMemoS_eq h (by omega) (by omega), Option.bind_some]
  by_cases hb : (Bk.bulk xs : Int) ≤ 1048576
  case neg => rw [if_neg hb]; rfl
  rw [if_pos hb, decide_eq_false (by omega), cond_false, szMemo_eq hm (by omega) (by omega), Option.bind_some]
  by_cases hbm : (Bk.bulk m : Int) ≤ 1048576 - Bk.bulk xs
  case neg => rw [if_neg hbm]; rfl
  rw [if_pos hbm, decide_eq_false (by omega), cond_false]
  have b1 : Bk.bulk xs ≤ 1048576 := by omega
  have b2 : Bk.bulk m ≤ 1048576 := by omega
  have hl := bulk_len b1
  have s1 : sumB lenM xs ≤ Bk.bulk xs := Nat.le_trans (sumB_le lenM_le xs) (Nat.le_add_left _ _)
  have s2 := lenM_le m
  obtain ⟨p1, p2⟩ := putB_sum (xs := xs) (m := m)
  have hfst : (turnL markM 1 xs).1 = 1 + sumB lenM xs := turnL_fst (b := lenM) (fun k x => rfl) xs 1
  have hmk : (markM (1 + (sumB lenM xs : Int)) m).1 = 1 + sumB lenM xs + lenM m := rfl
  have hg : (turnL markM 1 (putB xs m).1).1 = 1 + sumB lenM (putB xs m).1 := turnL_fst (b := lenM) (fun k x => rfl) _ 1
  have hle : (putB xs m).1.length ≤ 1048576 := by
    unfold putB
    cases hmb : memosB xs
    · simp
    · have : xs.length ≤ 5 := by
        unfold memosB at hmb
        simp only [Bool.and_eq_true, Bool.not_eq_true', decide_eq_false_iff_not] at hmb
        omega
      have := List.length_filter_le (keepB m) xs
      cases memosB (putL xs m)
      · simpa using hl
      · simp only [cond_true, putL, List.length_append, List.length_cons, List.length_nil]
        omega
  have n1 : decide ((1 + (sumB lenM xs : Int) + lenM m) < 0) = false := decide_eq_false (by omega)
  have n2 : decide ((1 + (sumB lenM (putB xs m).1 : Int)) < 0) = false := decide_eq_false (by omega)
  simp only [toMemoS_eq b1, toMemo_eq b2, Option.bind_some, sMemoPut_eq h hm b1 b2, iMemoPut_eq h hm b1 b2, jn, eqMemoS_eq (putB_fit h hm hl), eqMemoS_eq h, eqMemo_eq hm, beq_self_eq_true, Bool.not_true, cond_false, bne_self_eq_false,
    markMemoS_eq (xs := xs) (k := 1) (by omega) (by omega) hl, hfst, markMemo_eq (x := m) (k := 1 + (sumB lenM xs : Int)) (by omega) (by omega), hmk, n1,
    markMemoS_eq (xs := (putB xs m).1) (k := 1) (by omega) (by omega) hle, heldMemoS_eq (xs := (putB xs m).1) (k := 1) (by omega) (by omega) hle, hg, n2]
end Go.Vm
