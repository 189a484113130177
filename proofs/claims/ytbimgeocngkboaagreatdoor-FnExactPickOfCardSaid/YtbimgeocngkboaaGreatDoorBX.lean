/- Plain laws of the statements' own helpers: they count bulk, copy, compare, mark; printed by a program of ours. Conditions: each law's own premises. -/
import Derived.Test.YtbimgeocngkboaaGreatDoorBLw
import Derived.Test.YtbimgeocngkboaaGreatDoorBM0
namespace Go.Vm
open Go Go.Sx
set_option linter.unusedSimpArgs false
set_option linter.unusedVariables false
theorem eszIntS {xs : List Int} {n : Int} (hf : Bk.fit xs) (h0 : 0 ≤ n) (hN : n ≤ 1048576) : laws_szIntS xs n = some (if (Bk.bulk xs : Int) ≤ n then n - Bk.bulk xs else -1) := by
  have hl := fit_len hf
  unfold laws_szIntS
  have hw : w64 (n - (xs.length : Int)) = n - xs.length := w64_id (by unfold maxi at hl; omega) (by omega)
  have hb : (Bk.bulk xs : Int) = xs.length + sumB Bk.bulk xs := by simp [Bk.bulk]
  simp only [hw, jn, fuel0]
  by_cases h : n - (xs.length : Int) < 0
  · rw [decide_eq_true h, cond_true, if_neg (by omega)]
  · rw [decide_eq_false h, cond_false]
    have hz : sumB Bk.bulk xs = 0 := by
      clear hb h hw hN h0 hl hf
      induction xs with
      | nil => rfl
      | cons x xs ih => show 0 + sumB Bk.bulk xs = 0; omega
    rw [if_pos (by omega)]
    congr 1; omega
theorem eszStringS {xs : List Str} {n : Int} (hf : Bk.fit xs) (h0 : 0 ≤ n) (hN : n ≤ 1048576) : laws_szStringS xs n = some (if (Bk.bulk xs : Int) ≤ n then n - Bk.bulk xs else -1) := by
  have hl := fit_len hf
  unfold laws_szStringS
  have hw : w64 (n - (xs.length : Int)) = n - xs.length := w64_id (by unfold maxi at hl; omega) (by omega)
  have hb : (Bk.bulk xs : Int) = xs.length + sumB Bk.bulk xs := by simp [Bk.bulk]
  simp only [hw, jn, fuel0]
  by_cases h : n - (xs.length : Int) < 0
  · rw [decide_eq_true h, cond_true, if_neg (by omega)]
  · rw [decide_eq_false h, cond_false]
    rw [loop_size (α := Str) (xs := xs) (b := Bk.bulk) (N := 1048576) (r0 := some (-1)) (Z := fun a => some a) (f := fun m a i => laws_szStringS_l1 xs (fun y2 _ _ => some y2) m a 0 i) (fun m a i x hx ha hA => by
      have hx2 : x.length ≤ maxi := fit_at hf hx
      have hw2 : w64 (a - (x.length : Int)) = a - x.length := w64_id (by unfold maxi at hx2; omega) (by omega)
      simp only [laws_szStringS_l1, lt_of hx, gi_of hx, cond_true, Option.bind_some, hw2, w64_ix (ix_of hx) hl]
      by_cases h1 : a - (x.length : Int) < 0
      · rw [decide_eq_true h1, cond_true, if_neg (by simp only [Bk.bulk]; omega)]
      · rw [decide_eq_false h1, cond_false, if_pos (by simp only [Bk.bulk]; omega)]; rfl) (fun m a => by
      simp only [laws_szStringS_l1, end_of, cond_false]) (by omega) (by omega) (by omega)]
    by_cases h2 : (sumB Bk.bulk xs : Int) ≤ n - xs.length
    · rw [if_pos h2, if_pos (by omega), hb]; congr 1; omega
    · rw [if_neg h2, if_neg (by omega)]
theorem eszFile {x : File} {n : Int} (hf : Bk.fit x) (h0 : 0 ≤ n) (hN : n ≤ 1048576) : laws_szFile x n = some (if (Bk.bulk x : Int) ≤ n then n - Bk.bulk x else -1) := by
  obtain ⟨f0, f1⟩ := hf
  have hb : Bk.bulk x = Bk.bulk x.Path + (Bk.bulk x.Text) := rfl
  have b0 : Bk.bulk x.Path = x.Path.length := rfl
  have g0 : x.Path.length ≤ maxi := f0
  unfold maxi at g0
  unfold laws_szFile
  have w0 : w64 (n - (x.Path.length : Int)) = n - (x.Path.length : Int) := w64_id (by omega) (by omega)
  simp only [w0]
  by_cases h0 : n - (x.Path.length : Int) < 0
  case pos => rw [decide_eq_true h0, cond_true, if_neg (by omega)]
  rw [decide_eq_false h0, cond_false]
  rw [eszStringS f1 (by omega) (by omega), Option.bind_some]
  by_cases h1 : (Bk.bulk x.Text : Int) ≤ n - (x.Path.length : Int)
  case neg => rw [if_neg h1, if_neg (by omega)]; rfl
  rw [if_pos h1, decide_eq_false (by omega), cond_false]
  rw [if_pos (by omega)]
  congr 1 <;> omega
theorem eszFileS {xs : List File} {n : Int} (hf : Bk.fit xs) (h0 : 0 ≤ n) (hN : n ≤ 1048576) : laws_szFileS xs n = some (if (Bk.bulk xs : Int) ≤ n then n - Bk.bulk xs else -1) := by
  have hl := fit_len hf
  unfold laws_szFileS
  have hw : w64 (n - (xs.length : Int)) = n - xs.length := w64_id (by unfold maxi at hl; omega) (by omega)
  have hb : (Bk.bulk xs : Int) = xs.length + sumB Bk.bulk xs := by simp [Bk.bulk]
  simp only [hw, jn, fuel0]
  by_cases h : n - (xs.length : Int) < 0
  · rw [decide_eq_true h, cond_true, if_neg (by omega)]
  · rw [decide_eq_false h, cond_false]
    rw [loop_size (α := File) (xs := xs) (b := Bk.bulk) (N := 1048576) (r0 := some (-1)) (Z := fun a => some a) (f := fun m a i => laws_szFileS_l1 xs (fun y2 _ _ => some y2) m a 0 i) (fun m a i x hx ha hA => by
      simp only [laws_szFileS_l1, lt_of hx, gi_of hx, cond_true, Option.bind_some, eszFile (fit_at hf hx) ha hA, w64_ix (ix_of hx) hl]
      by_cases h1 : (Bk.bulk x : Int) ≤ a
      · rw [if_pos h1, decide_eq_false (by omega), cond_false, if_pos h1]
      · rw [if_neg h1, if_neg h1]; rfl) (fun m a => by
      simp only [laws_szFileS_l1, end_of, cond_false]) (by omega) (by omega) (by omega)]
    by_cases h2 : (sumB Bk.bulk xs : Int) ≤ n - xs.length
    · rw [if_pos h2, if_pos (by omega), hb]; congr 1; omega
    · rw [if_neg h2, if_neg (by omega)]
theorem eszCommit {x : Commit} {n : Int} (hf : Bk.fit x) (h0 : 0 ≤ n) (hN : n ≤ 1048576) : laws_szCommit x n = some (if (Bk.bulk x : Int) ≤ n then n - Bk.bulk x else -1) := by
  obtain ⟨f0, f1, f2⟩ := hf
  have hb : Bk.bulk x = Bk.bulk x.Parents + (Bk.bulk x.Who + (Bk.bulk x.Tree)) := rfl
  have b1 : Bk.bulk x.Who = x.Who.length := rfl
  have g1 : x.Who.length ≤ maxi := f1
  unfold maxi at g1
  unfold laws_szCommit
  rw [eszIntS f0 (by omega) (by omega), Option.bind_some]
  by_cases h0 : (Bk.bulk x.Parents : Int) ≤ n
  case neg => rw [if_neg h0, if_neg (by omega)]; rfl
  rw [if_pos h0, decide_eq_false (by omega), cond_false]
  have w1 : w64 (n - (Bk.bulk x.Parents : Int) - (x.Who.length : Int)) = n - (Bk.bulk x.Parents : Int) - (x.Who.length : Int) := w64_id (by omega) (by omega)
  simp only [w1]
  by_cases h1 : n - (Bk.bulk x.Parents : Int) - (x.Who.length : Int) < 0
  case pos => rw [decide_eq_true h1, cond_true, if_neg (by omega)]
  rw [decide_eq_false h1, cond_false]
  rw [eszFileS f2 (by omega) (by omega), Option.bind_some]
  by_cases h2 : (Bk.bulk x.Tree : Int) ≤ n - (Bk.bulk x.Parents : Int) - (x.Who.length : Int)
  case neg => rw [if_neg h2, if_neg (by omega)]; rfl
  rw [if_pos h2, decide_eq_false (by omega), cond_false]
  rw [if_pos (by omega)]
  congr 1 <;> omega
theorem eszCommitS {xs : List Commit} {n : Int} (hf : Bk.fit xs) (h0 : 0 ≤ n) (hN : n ≤ 1048576) : laws_szCommitS xs n = some (if (Bk.bulk xs : Int) ≤ n then n - Bk.bulk xs else -1) := by
  have hl := fit_len hf
  unfold laws_szCommitS
  have hw : w64 (n - (xs.length : Int)) = n - xs.length := w64_id (by unfold maxi at hl; omega) (by omega)
  have hb : (Bk.bulk xs : Int) = xs.length + sumB Bk.bulk xs := by simp [Bk.bulk]
  simp only [hw, jn, fuel0]
  by_cases h : n - (xs.length : Int) < 0
  · rw [decide_eq_true h, cond_true, if_neg (by omega)]
  · rw [decide_eq_false h, cond_false]
    rw [loop_size (α := Commit) (xs := xs) (b := Bk.bulk) (N := 1048576) (r0 := some (-1)) (Z := fun a => some a) (f := fun m a i => laws_szCommitS_l1 xs (fun y2 _ _ => some y2) m a 0 i) (fun m a i x hx ha hA => by
      simp only [laws_szCommitS_l1, lt_of hx, gi_of hx, cond_true, Option.bind_some, eszCommit (fit_at hf hx) ha hA, w64_ix (ix_of hx) hl]
      by_cases h1 : (Bk.bulk x : Int) ≤ a
      · rw [if_pos h1, decide_eq_false (by omega), cond_false, if_pos h1]
      · rw [if_neg h1, if_neg h1]; rfl) (fun m a => by
      simp only [laws_szCommitS_l1, end_of, cond_false]) (by omega) (by omega) (by omega)]
    by_cases h2 : (sumB Bk.bulk xs : Int) ≤ n - xs.length
    · rw [if_pos h2, if_pos (by omega), hb]; congr 1; omega
    · rw [if_neg h2, if_neg (by omega)]
theorem eszHead {x : Head} {n : Int} (hf : Bk.fit x) (h0 : 0 ≤ n) (hN : n ≤ 1048576) : laws_szHead x n = some (if (Bk.bulk x : Int) ≤ n then n - Bk.bulk x else -1) := by
  obtain ⟨f0, f1⟩ := hf
  have hb : Bk.bulk x = Bk.bulk x.Name + (Bk.bulk x.At) := rfl
  have b0 : Bk.bulk x.Name = x.Name.length := rfl
  have g0 : x.Name.length ≤ maxi := f0
  unfold maxi at g0
  have b1 : Bk.bulk x.At = 0 := rfl
  unfold laws_szHead
  have w0 : w64 (n - (x.Name.length : Int)) = n - (x.Name.length : Int) := w64_id (by omega) (by omega)
  simp only [w0]
  by_cases h0 : n - (x.Name.length : Int) < 0
  case pos => rw [decide_eq_true h0, cond_true, if_neg (by omega)]
  rw [decide_eq_false h0, cond_false]
  rw [if_pos (by omega)]
  congr 1 <;> omega
theorem eszHeadS {xs : List Head} {n : Int} (hf : Bk.fit xs) (h0 : 0 ≤ n) (hN : n ≤ 1048576) : laws_szHeadS xs n = some (if (Bk.bulk xs : Int) ≤ n then n - Bk.bulk xs else -1) := by
  have hl := fit_len hf
  unfold laws_szHeadS
  have hw : w64 (n - (xs.length : Int)) = n - xs.length := w64_id (by unfold maxi at hl; omega) (by omega)
  have hb : (Bk.bulk xs : Int) = xs.length + sumB Bk.bulk xs := by simp [Bk.bulk]
  simp only [hw, jn, fuel0]
  by_cases h : n - (xs.length : Int) < 0
  · rw [decide_eq_true h, cond_true, if_neg (by omega)]
  · rw [decide_eq_false h, cond_false]
    rw [loop_size (α := Head) (xs := xs) (b := Bk.bulk) (N := 1048576) (r0 := some (-1)) (Z := fun a => some a) (f := fun m a i => laws_szHeadS_l1 xs (fun y2 _ _ => some y2) m a 0 i) (fun m a i x hx ha hA => by
      simp only [laws_szHeadS_l1, lt_of hx, gi_of hx, cond_true, Option.bind_some, eszHead (fit_at hf hx) ha hA, w64_ix (ix_of hx) hl]
      by_cases h1 : (Bk.bulk x : Int) ≤ a
      · rw [if_pos h1, decide_eq_false (by omega), cond_false, if_pos h1]
      · rw [if_neg h1, if_neg h1]; rfl) (fun m a => by
      simp only [laws_szHeadS_l1, end_of, cond_false]) (by omega) (by omega) (by omega)]
    by_cases h2 : (sumB Bk.bulk xs : Int) ≤ n - xs.length
    · rw [if_pos h2, if_pos (by omega), hb]; congr 1; omega
    · rw [if_neg h2, if_neg (by omega)]
theorem eszRepo {x : Repo} {n : Int} (hf : Bk.fit x) (h0 : 0 ≤ n) (hN : n ≤ 1048576) : laws_szRepo x n = some (if (Bk.bulk x : Int) ≤ n then n - Bk.bulk x else -1) := by
  obtain ⟨f0, f1⟩ := hf
  have hb : Bk.bulk x = Bk.bulk x.Commits + (Bk.bulk x.Heads) := rfl
  unfold laws_szRepo
  rw [eszCommitS f0 (by omega) (by omega), Option.bind_some]
  by_cases h0 : (Bk.bulk x.Commits : Int) ≤ n
  case neg => rw [if_neg h0, if_neg (by omega)]; rfl
  rw [if_pos h0, decide_eq_false (by omega), cond_false]
  rw [eszHeadS f1 (by omega) (by omega), Option.bind_some]
  by_cases h1 : (Bk.bulk x.Heads : Int) ≤ n - (Bk.bulk x.Commits : Int)
  case neg => rw [if_neg h1, if_neg (by omega)]; rfl
  rw [if_pos h1, decide_eq_false (by omega), cond_false]
  rw [if_pos (by omega)]
  congr 1 <;> omega
theorem etoIntS {xs : List Int} (h : Bk.bulk xs ≤ 1048576) : laws_toIntS xs = some xs := by
  have hl := bulk_len h
  unfold laws_toIntS
  simp only [mkM_of (to_lim hl), jn, fuel0, Option.bind_some]
  rw [loop_copy (g := id) (Z := fun ys => some ys) (f := fun m i out => laws_toIntS_l1 xs (fun _ y6 => some y6) m i out) (fun m i x out hx ho => by
    have hi := ix_of hx
    simp only [laws_toIntS_l1, lt_of hx, gi_of hx, cond_true, Option.bind_some, w64_ix hi (to_maxi hl), siM_of (show i < out.length by omega), gi_of (List.getElem?_eq_getElem (show i < out.length by omega)), id]) (fun m out => by
    simp only [laws_toIntS_l1, end_of, cond_false]) (by omega)]
  simp
theorem etoStringS {xs : List Str} (h : Bk.bulk xs ≤ 1048576) : laws_toStringS xs = some xs := by
  have hl := bulk_len h
  unfold laws_toStringS
  simp only [mkM_of (to_lim hl), jn, fuel0, Option.bind_some]
  rw [loop_copy (g := id) (Z := fun ys => some ys) (f := fun m i out => laws_toStringS_l1 xs (fun _ y6 => some y6) m i out) (fun m i x out hx ho => by
    have hi := ix_of hx
    simp only [laws_toStringS_l1, lt_of hx, gi_of hx, cond_true, Option.bind_some, w64_ix hi (to_maxi hl), siM_of (show i < out.length by omega), gi_of (List.getElem?_eq_getElem (show i < out.length by omega)), id]) (fun m out => by
    simp only [laws_toStringS_l1, end_of, cond_false]) (by omega)]
  simp
theorem etoFile {x : File} (h : Bk.bulk x ≤ 1048576) : laws_toFile x = some x := by
  have hb : Bk.bulk x = Bk.bulk x.Path + (Bk.bulk x.Text) := rfl
  unfold laws_toFile
  simp only [etoStringS (show Bk.bulk x.Text ≤ 1048576 by omega), Option.bind_some]
theorem etoFileS {xs : List File} (h : Bk.bulk xs ≤ 1048576) : laws_toFileS xs = some xs := by
  have hl := bulk_len h
  unfold laws_toFileS
  simp only [mkM_of (to_lim hl), jn, fuel0, Option.bind_some]
  rw [loop_copy (g := id) (Z := fun ys => some ys) (f := fun m i out => laws_toFileS_l1 xs (fun _ y6 => some y6) m i out) (fun m i x out hx ho => by
    have hi := ix_of hx
    simp only [laws_toFileS_l1, lt_of hx, gi_of hx, cond_true, Option.bind_some, etoFile (bulk_at h hx), w64_ix hi (to_maxi hl), siM_of (show i < out.length by omega), gi_of (List.getElem?_eq_getElem (show i < out.length by omega)), id]) (fun m out => by
    simp only [laws_toFileS_l1, end_of, cond_false]) (by omega)]
  simp
theorem etoCommit {x : Commit} (h : Bk.bulk x ≤ 1048576) : laws_toCommit x = some x := by
  have hb : Bk.bulk x = Bk.bulk x.Parents + (Bk.bulk x.Who + (Bk.bulk x.Tree)) := rfl
  unfold laws_toCommit
  simp only [etoIntS (show Bk.bulk x.Parents ≤ 1048576 by omega), etoFileS (show Bk.bulk x.Tree ≤ 1048576 by omega), Option.bind_some]
theorem etoCommitS {xs : List Commit} (h : Bk.bulk xs ≤ 1048576) : laws_toCommitS xs = some xs := by
  have hl := bulk_len h
  unfold laws_toCommitS
  simp only [mkM_of (to_lim hl), jn, fuel0, Option.bind_some]
  rw [loop_copy (g := id) (Z := fun ys => some ys) (f := fun m i out => laws_toCommitS_l1 xs (fun _ y6 => some y6) m i out) (fun m i x out hx ho => by
    have hi := ix_of hx
    simp only [laws_toCommitS_l1, lt_of hx, gi_of hx, cond_true, Option.bind_some, etoCommit (bulk_at h hx), w64_ix hi (to_maxi hl), siM_of (show i < out.length by omega), gi_of (List.getElem?_eq_getElem (show i < out.length by omega)), id]) (fun m out => by
    simp only [laws_toCommitS_l1, end_of, cond_false]) (by omega)]
  simp
theorem etoHead {x : Head} (h : Bk.bulk x ≤ 1048576) : laws_toHead x = some x := by
  have hb : Bk.bulk x = Bk.bulk x.Name + (Bk.bulk x.At) := rfl
  unfold laws_toHead
  rfl
theorem etoHeadS {xs : List Head} (h : Bk.bulk xs ≤ 1048576) : laws_toHeadS xs = some xs := by
  have hl := bulk_len h
  unfold laws_toHeadS
  simp only [mkM_of (to_lim hl), jn, fuel0, Option.bind_some]
  rw [loop_copy (g := id) (Z := fun ys => some ys) (f := fun m i out => laws_toHeadS_l1 xs (fun _ y6 => some y6) m i out) (fun m i x out hx ho => by
    have hi := ix_of hx
    simp only [laws_toHeadS_l1, lt_of hx, gi_of hx, cond_true, Option.bind_some, etoHead (bulk_at h hx), w64_ix hi (to_maxi hl), siM_of (show i < out.length by omega), gi_of (List.getElem?_eq_getElem (show i < out.length by omega)), id]) (fun m out => by
    simp only [laws_toHeadS_l1, end_of, cond_false]) (by omega)]
  simp
theorem etoRepo {x : Repo} (h : Bk.bulk x ≤ 1048576) : laws_toRepo x = some x := by
  have hb : Bk.bulk x = Bk.bulk x.Commits + (Bk.bulk x.Heads) := rfl
  unfold laws_toRepo
  simp only [etoCommitS (show Bk.bulk x.Commits ≤ 1048576 by omega), etoHeadS (show Bk.bulk x.Heads ≤ 1048576 by omega), Option.bind_some]
theorem eeqIntS {xs ys : List Int} (h : Bk.fit xs) : laws_eqIntS xs ys = some (xs == ys) := by
  have hl := fit_len h
  unfold laws_eqIntS
  simp only [bne_len, jn, fuel0]
  by_cases hn : xs.length = ys.length
  · rw [hn, beq_self_eq_true, Bool.not_true, cond_false, ← hn]
    rw [loop_eq (α := Int) (r0 := some false) (Z := some true) (f := fun m i => laws_eqIntS_l1 xs ys (fun _ _ => some true) m false i) hn (fun m i x y hx hy => by
      simp only [laws_eqIntS_l1, lt_of hx, gi_of hx, gi_of hy, cond_true, Option.bind_some, w64_ix (ix_of hx) hl, bne]
      cases x == y <;> rfl) (fun m => by simp only [laws_eqIntS_l1, end_of, cond_false]) (by omega)]
    cases xs == ys <;> rfl
  · rw [beq_false_of_ne hn, Bool.not_false, cond_true, beq_false_of_ne (fun e => hn (by rw [e]))]
theorem eeqStringS {xs ys : List Str} (h : Bk.fit xs) : laws_eqStringS xs ys = some (xs == ys) := by
  have hl := fit_len h
  unfold laws_eqStringS
  simp only [bne_len, jn, fuel0]
  by_cases hn : xs.length = ys.length
  · rw [hn, beq_self_eq_true, Bool.not_true, cond_false, ← hn]
    rw [loop_eq (α := Str) (r0 := some false) (Z := some true) (f := fun m i => laws_eqStringS_l1 xs ys (fun _ _ => some true) m false i) hn (fun m i x y hx hy => by
      simp only [laws_eqStringS_l1, lt_of hx, gi_of hx, gi_of hy, cond_true, Option.bind_some, w64_ix (ix_of hx) hl, bne]
      cases x == y <;> rfl) (fun m => by simp only [laws_eqStringS_l1, end_of, cond_false]) (by omega)]
    cases xs == ys <;> rfl
  · rw [beq_false_of_ne hn, Bool.not_false, cond_true, beq_false_of_ne (fun e => hn (by rw [e]))]
theorem eeqFile {x y : File} (h : Bk.fit x) : laws_eqFile x y = some (x == y) := by
  obtain ⟨f0, f1⟩ := h
  unfold laws_eqFile
  simp only [eeqStringS f1, Option.bind_some, bne]
  obtain ⟨a0, a1⟩ := x
  obtain ⟨b0, b1⟩ := y
  have : ((⟨a0, a1⟩ : File) == ⟨b0, b1⟩) = (a0 == b0 && (a1 == b1)) := by
    have hb : ∀ b c : Bool, (b = true ↔ c = true) → b = c := by decide
    apply hb
    simp
  rw [this]
  cases a0 == b0 <;> cases a1 == b1 <;> rfl
theorem eeqFileS {xs ys : List File} (h : Bk.fit xs) : laws_eqFileS xs ys = some (xs == ys) := by
  have hl := fit_len h
  unfold laws_eqFileS
  simp only [bne_len, jn, fuel0]
  by_cases hn : xs.length = ys.length
  · rw [hn, beq_self_eq_true, Bool.not_true, cond_false, ← hn]
    rw [loop_eq (α := File) (r0 := some false) (Z := some true) (f := fun m i => laws_eqFileS_l1 xs ys (fun _ _ => some true) m false i) hn (fun m i x y hx hy => by
      simp only [laws_eqFileS_l1, lt_of hx, gi_of hx, gi_of hy, cond_true, Option.bind_some, w64_ix (ix_of hx) hl, eeqFile (fit_at h hx)]
      cases x == y <;> rfl) (fun m => by simp only [laws_eqFileS_l1, end_of, cond_false]) (by omega)]
    cases xs == ys <;> rfl
  · rw [beq_false_of_ne hn, Bool.not_false, cond_true, beq_false_of_ne (fun e => hn (by rw [e]))]
theorem eeqCommit {x y : Commit} (h : Bk.fit x) : laws_eqCommit x y = some (x == y) := by
  obtain ⟨f0, f1, f2⟩ := h
  unfold laws_eqCommit
  simp only [eeqIntS f0, eeqFileS f2, Option.bind_some, bne]
  obtain ⟨a0, a1, a2⟩ := x
  obtain ⟨b0, b1, b2⟩ := y
  have : ((⟨a0, a1, a2⟩ : Commit) == ⟨b0, b1, b2⟩) = (a0 == b0 && (a1 == b1 && (a2 == b2))) := by
    have hb : ∀ b c : Bool, (b = true ↔ c = true) → b = c := by decide
    apply hb
    simp
  rw [this]
  cases a0 == b0 <;> cases a1 == b1 <;> cases a2 == b2 <;> rfl
theorem eeqCommitS {xs ys : List Commit} (h : Bk.fit xs) : laws_eqCommitS xs ys = some (xs == ys) := by
  have hl := fit_len h
  unfold laws_eqCommitS
  simp only [bne_len, jn, fuel0]
  by_cases hn : xs.length = ys.length
  · rw [hn, beq_self_eq_true, Bool.not_true, cond_false, ← hn]
    rw [loop_eq (α := Commit) (r0 := some false) (Z := some true) (f := fun m i => laws_eqCommitS_l1 xs ys (fun _ _ => some true) m false i) hn (fun m i x y hx hy => by
      simp only [laws_eqCommitS_l1, lt_of hx, gi_of hx, gi_of hy, cond_true, Option.bind_some, w64_ix (ix_of hx) hl, eeqCommit (fit_at h hx)]
      cases x == y <;> rfl) (fun m => by simp only [laws_eqCommitS_l1, end_of, cond_false]) (by omega)]
    cases xs == ys <;> rfl
  · rw [beq_false_of_ne hn, Bool.not_false, cond_true, beq_false_of_ne (fun e => hn (by rw [e]))]
theorem eeqHead {x y : Head} (h : Bk.fit x) : laws_eqHead x y = some (x == y) := by
  obtain ⟨f0, f1⟩ := h
  unfold laws_eqHead
  simp only [Option.bind_some, bne]
  obtain ⟨a0, a1⟩ := x
  obtain ⟨b0, b1⟩ := y
  have : ((⟨a0, a1⟩ : Head) == ⟨b0, b1⟩) = (a0 == b0 && (a1 == b1)) := by
    have hb : ∀ b c : Bool, (b = true ↔ c = true) → b = c := by decide
    apply hb
    simp
  rw [this]
  cases a0 == b0 <;> cases a1 == b1 <;> rfl
theorem eeqHeadS {xs ys : List Head} (h : Bk.fit xs) : laws_eqHeadS xs ys = some (xs == ys) := by
  have hl := fit_len h
  unfold laws_eqHeadS
  simp only [bne_len, jn, fuel0]
  by_cases hn : xs.length = ys.length
  · rw [hn, beq_self_eq_true, Bool.not_true, cond_false, ← hn]
    rw [loop_eq (α := Head) (r0 := some false) (Z := some true) (f := fun m i => laws_eqHeadS_l1 xs ys (fun _ _ => some true) m false i) hn (fun m i x y hx hy => by
      simp only [laws_eqHeadS_l1, lt_of hx, gi_of hx, gi_of hy, cond_true, Option.bind_some, w64_ix (ix_of hx) hl, eeqHead (fit_at h hx)]
      cases x == y <;> rfl) (fun m => by simp only [laws_eqHeadS_l1, end_of, cond_false]) (by omega)]
    cases xs == ys <;> rfl
  · rw [beq_false_of_ne hn, Bool.not_false, cond_true, beq_false_of_ne (fun e => hn (by rw [e]))]
theorem eeqRepo {x y : Repo} (h : Bk.fit x) : laws_eqRepo x y = some (x == y) := by
  obtain ⟨f0, f1⟩ := h
  unfold laws_eqRepo
  simp only [eeqCommitS f0, eeqHeadS f1, Option.bind_some, bne]
  obtain ⟨a0, a1⟩ := x
  obtain ⟨b0, b1⟩ := y
  have : ((⟨a0, a1⟩ : Repo) == ⟨b0, b1⟩) = (a0 == b0 && (a1 == b1)) := by
    have hb : ∀ b c : Bool, (b = true ↔ c = true) → b = c := by decide
    apply hb
    simp
  rw [this]
  cases a0 == b0 <;> cases a1 == b1 <;> rfl
theorem tmod10 {k : Int} (h : 0 < k) : 0 ≤ Int.tdiv k 10 ∧ Int.tdiv k 10 ≤ k - 1 ∧ 0 ≤ Int.tmod k 10 ∧ Int.tmod k 10 ≤ 9 := by
  obtain ⟨n, rfl⟩ := Int.eq_ofNat_of_zero_le (show 0 ≤ k by omega)
  have h1 : Int.tdiv (n : Int) 10 = ((n / 10 : Nat) : Int) := rfl
  have h2 : Int.tmod (n : Int) 10 = ((n % 10 : Nat) : Int) := rfl
  rw [h1, h2]
  omega
theorem markText_l1_some {K : Int → Str → Option Str} (hK : ∀ (k : Int) (s : Str), s.length ≤ 1073741824 → ∃ t, K k s = some t ∧ t.length ≤ 2000000000) :
    ∀ (m : Nat) (k : Int) (out : Str), 0 ≤ k → k < m → out.length + k ≤ 1073741824 → ∃ t, laws_markText_l1 K m k out = some t ∧ t.length ≤ 2000000000
  | 0, k, out, h0, hm, hl => by omega
  | m + 1, k, out, h0, hm, hl => by
    simp only [laws_markText_l1]
    by_cases hk : 0 < k
    · obtain ⟨h1, h2, h3, h4⟩ := tmod10 hk
      have hs : saM (([(by8 (w64 (48 + (Int.tmod k 10))))] : List Byte) : Str) out = some ((by8 (w64 (48 + (Int.tmod k 10)))) :: out) := by
        unfold saM
        rw [if_pos]
        · rfl
        · show 1 + out.length ≤ 4294967296
          omega
      rw [decide_eq_true hk, cond_true, hs, Option.bind_some, w64_id (by omega) (by omega)]
      exact markText_l1_some hK m _ _ h1 (by omega) (by simp only [List.length_append, List.length_cons, List.length_nil]; omega)
    · rw [decide_eq_false hk, cond_false]
      exact hK k out (by omega)
/-- The text of a mark. -/
def mt (k : Int) : Str := ((laws_markText k).getD []).take 2000000000
theorem markText_eq {k : Int} (h0 : 0 ≤ k) (hN : k ≤ 536870912) : laws_markText k = some (mt k) := by
  have : ∃ t, laws_markText k = some t ∧ t.length ≤ 2000000000 := by
    unfold laws_markText
    by_cases hk : k ≤ 0
    · rw [decide_eq_true hk]; exact ⟨_, rfl, by simp⟩
    · rw [decide_eq_false hk, cond_false]
      simp only [jn]
      refine markText_l1_some (fun k s hs => ?_) _ k _ h0 (by omega) (by simp; omega)
      refine ⟨[109] ++ s, ?_, by simp; omega⟩
      have : saM ([109] : Str) s = some ([109] ++ s) := by
        unfold saM
        rw [if_pos]
        simp only [List.length_cons, List.length_nil, lim]
        omega
      rw [this, Option.bind_some]
  obtain ⟨t, ht, hl⟩ := this
  unfold mt
  rw [ht]
  show some t = some (t.take 2000000000)
  rw [List.take_of_length_le hl]
def mb (k : Int) : Bool := Int.tmod k 3 == 0
def mdStr : MkD Str := MkD.one mt
def mdInt : MkD Int := MkD.one (fun k => k)
def mdBool : MkD Bool := MkD.one mb
theorem cn_mdStr (xs : List Str) : mdStr.list.cn xs = xs.length := by
  show sumB (fun _ => 1) xs = xs.length
  induction xs with
  | nil => rfl
  | cons y ys ih => simp only [sumB, ih, List.length_cons]; omega
theorem fit_mdStr : mdStr.Fits := MkD.fits_one fun k _ _ => by
  show (((laws_markText k).getD []).take 2000000000).length ≤ maxi
  rw [List.length_take]
  unfold maxi
  omega
theorem fit_mdInt : mdInt.Fits := MkD.fits_one fun k h0 hN => ⟨by omega, by omega⟩
theorem fit_mdBool : mdBool.Fits := MkD.fits_one fun _ _ _ => trivial
theorem few_mdStr : mdStr.Few 1 := MkD.few_one
theorem few_mdInt : mdInt.Few 1 := MkD.few_one
theorem few_mdBool : mdBool.Few 1 := MkD.few_one
def mdEFile : MkD File := MkD.via (MkD.pair mdStr mdStr.list) (fun x => (x.Path, x.Text)) (fun p => ⟨p.1, p.2⟩) (fun _ => rfl)
theorem fit_mdEFile : mdEFile.Fits := MkD.fits_via (MkD.fits_pair fit_mdStr (MkD.fits_list fit_mdStr)) (fun _ h => h) (fun _ h => h)
theorem few_mdEFile : mdEFile.Few 2 := MkD.few_via (MkD.few_pair few_mdStr (MkD.few_list few_mdStr)) (fun _ => rfl)
def mdECommit : MkD Commit := MkD.via (MkD.pair mdInt.list (MkD.pair mdStr mdEFile.list)) (fun x => (x.Parents, (x.Who, x.Tree))) (fun p => ⟨p.1, p.2.1, p.2.2⟩) (fun _ => rfl)
theorem fit_mdECommit : mdECommit.Fits := MkD.fits_via (MkD.fits_pair (MkD.fits_list fit_mdInt) (MkD.fits_pair fit_mdStr (MkD.fits_list fit_mdEFile))) (fun _ h => h) (fun _ h => h)
theorem few_mdECommit : mdECommit.Few 4 := MkD.few_via (MkD.few_pair (MkD.few_list few_mdInt) (MkD.few_pair few_mdStr (MkD.few_list few_mdEFile))) (fun _ => rfl)
theorem emarkIntS {xs : List Int} {k : Int} (h0 : 0 ≤ k) (hN : k + mdInt.list.cn xs ≤ 536870912) (hf : Bk.fit xs) : laws_markIntS xs k = some (mdInt.list.wr k xs) := by
  unfold laws_markIntS
  simp only [jn, fuel0]
  rw [loop_turn (xs := xs) (g := mdInt.wr) (b := mdInt.cn) (N := 536870912) (Z := fun k out => some (k, out)) (f := fun m k i out => laws_markIntS_l1 (fun y1 _ y3 => some (y1, y3)) m k i out) mdInt.fst (fun m k i x out hx ho hlen hk hkN => by
    have hi := ix_of hx
    have hi' : i < out.length := by omega
    have ei := w64_ix hi (fit_len hf)
    have hc : k + 1 ≤ 536870912 := hkN
    simp only [laws_markIntS_l1, lt_of ho, cond_true, Option.bind_some, gi_of ho, siM_of hi', gi_of (setAt hi'), siM_of (show i < (out.set i _).length by simpa using hi'), List.set_set, ei, w64_id (show -9223372036854775808 ≤ k + 1 by omega) (show k + 1 ≤ 9223372036854775807 by omega), w64_id (show -9223372036854775808 ≤ k by omega) (show k ≤ 9223372036854775807 by omega)]
    try rfl) (fun m k out hl => by
    simp only [laws_markIntS_l1, ← hl, end_of, cond_false]) (by omega) h0 hN]
  rfl
theorem emarkStringS {xs : List Str} {k : Int} (h0 : 0 ≤ k) (hN : k + mdStr.list.cn xs ≤ 536870912) (hf : Bk.fit xs) : laws_markStringS xs k = some (mdStr.list.wr k xs) := by
  unfold laws_markStringS
  simp only [jn, fuel0]
  rw [loop_turn (xs := xs) (g := mdStr.wr) (b := mdStr.cn) (N := 536870912) (Z := fun k out => some (k, out)) (f := fun m k i out => laws_markStringS_l1 (fun y1 _ y3 => some (y1, y3)) m k i out) mdStr.fst (fun m k i x out hx ho hlen hk hkN => by
    have hi := ix_of hx
    have hi' : i < out.length := by omega
    have ei := w64_ix hi (fit_len hf)
    have hc : k + 1 ≤ 536870912 := hkN
    simp only [laws_markStringS_l1, lt_of ho, cond_true, Option.bind_some, gi_of ho, siM_of hi', gi_of (setAt hi'), siM_of (show i < (out.set i _).length by simpa using hi'), List.set_set, ei, markText_eq hk (by omega), w64_id (show -9223372036854775808 ≤ k + 1 by omega) (show k + 1 ≤ 9223372036854775807 by omega)]
    try rfl) (fun m k out hl => by
    simp only [laws_markStringS_l1, ← hl, end_of, cond_false]) (by omega) h0 hN]
  rfl
theorem emarkFileS {xs : List File} {k : Int} (h0 : 0 ≤ k) (hN : k + mdEFile.list.cn xs ≤ 536870912) (hf : Bk.fit xs) : laws_markFileS xs k = some (mdEFile.list.wr k xs) := by
  unfold laws_markFileS
  simp only [jn, fuel0]
  rw [loop_turn (xs := xs) (g := mdEFile.wr) (b := mdEFile.cn) (N := 536870912) (Z := fun k out => some (k, out)) (f := fun m k i out => laws_markFileS_l1 (fun y1 _ y3 => some (y1, y3)) m k i out) mdEFile.fst (fun m k i x out hx ho hlen hk hkN => by
    have hi := ix_of hx
    have hi' : i < out.length := by omega
    have ei := w64_ix hi (fit_len hf)
    have hc : mdEFile.cn x = 1 + (mdStr.list.cn x.Text) := rfl
    have e1 := mdStr.list.fst (k + 1) x.Text
    obtain ⟨f0, f1⟩ := fit_at hf hx
    simp only [laws_markFileS_l1, lt_of ho, cond_true, Option.bind_some, gi_of ho, siM_of hi', gi_of (setAt hi'), siM_of (show i < (out.set i _).length by simpa using hi'), List.set_set, ei, markText_eq (show 0 ≤ k by omega) (show k ≤ 536870912 by omega), w64_id (show -9223372036854775808 ≤ k + 1 by omega) (show k + 1 ≤ 9223372036854775807 by omega), emarkStringS (k := k + 1) (show 0 ≤ k + 1 by omega) (show k + 1 + mdStr.list.cn x.Text ≤ 536870912 by omega) f1]
    try rfl) (fun m k out hl => by
    simp only [laws_markFileS_l1, ← hl, end_of, cond_false]) (by omega) h0 hN]
  rfl
theorem emarkCommitS {xs : List Commit} {k : Int} (h0 : 0 ≤ k) (hN : k + mdECommit.list.cn xs ≤ 536870912) (hf : Bk.fit xs) : laws_markCommitS xs k = some (mdECommit.list.wr k xs) := by
  unfold laws_markCommitS
  simp only [jn, fuel0]
  rw [loop_turn (xs := xs) (g := mdECommit.wr) (b := mdECommit.cn) (N := 536870912) (Z := fun k out => some (k, out)) (f := fun m k i out => laws_markCommitS_l1 (fun y1 _ y3 => some (y1, y3)) m k i out) mdECommit.fst (fun m k i x out hx ho hlen hk hkN => by
    have hi := ix_of hx
    have hi' : i < out.length := by omega
    have ei := w64_ix hi (fit_len hf)
    have hc : mdECommit.cn x = mdInt.list.cn x.Parents + (1 + (mdEFile.list.cn x.Tree)) := rfl
    have e0 := mdInt.list.fst (k) x.Parents
    have e2 := mdEFile.list.fst ((mdInt.list.wr (k) x.Parents).1 + 1) x.Tree
    obtain ⟨f0, f1, f2⟩ := fit_at hf hx
    simp only [laws_markCommitS_l1, lt_of ho, cond_true, Option.bind_some, gi_of ho, siM_of hi', gi_of (setAt hi'), siM_of (show i < (out.set i _).length by simpa using hi'), List.set_set, ei, emarkIntS (k := k) (show 0 ≤ k by omega) (show k + mdInt.list.cn x.Parents ≤ 536870912 by omega) f0, markText_eq (show 0 ≤ (mdInt.list.wr (k) x.Parents).1 by omega) (show (mdInt.list.wr (k) x.Parents).1 ≤ 536870912 by omega), w64_id (show -9223372036854775808 ≤ (mdInt.list.wr (k) x.Parents).1 + 1 by omega) (show (mdInt.list.wr (k) x.Parents).1 + 1 ≤ 9223372036854775807 by omega), emarkFileS (k := (mdInt.list.wr (k) x.Parents).1 + 1) (show 0 ≤ (mdInt.list.wr (k) x.Parents).1 + 1 by omega) (show (mdInt.list.wr (k) x.Parents).1 + 1 + mdEFile.list.cn x.Tree ≤ 536870912 by omega) f2]
    try rfl) (fun m k out hl => by
    simp only [laws_markCommitS_l1, ← hl, end_of, cond_false]) (by omega) h0 hN]
  rfl
def mdEHead : MkD Head := MkD.via (MkD.pair mdStr mdInt) (fun x => (x.Name, x.At)) (fun p => ⟨p.1, p.2⟩) (fun _ => rfl)
theorem fit_mdEHead : mdEHead.Fits := MkD.fits_via (MkD.fits_pair fit_mdStr fit_mdInt) (fun _ h => h) (fun _ h => h)
theorem few_mdEHead : mdEHead.Few 2 := MkD.few_via (MkD.few_pair few_mdStr few_mdInt) (fun _ => rfl)
theorem emarkHeadS {xs : List Head} {k : Int} (h0 : 0 ≤ k) (hN : k + mdEHead.list.cn xs ≤ 536870912) (hf : Bk.fit xs) : laws_markHeadS xs k = some (mdEHead.list.wr k xs) := by
  unfold laws_markHeadS
  simp only [jn, fuel0]
  rw [loop_turn (xs := xs) (g := mdEHead.wr) (b := mdEHead.cn) (N := 536870912) (Z := fun k out => some (k, out)) (f := fun m k i out => laws_markHeadS_l1 (fun y1 _ y3 => some (y1, y3)) m k i out) mdEHead.fst (fun m k i x out hx ho hlen hk hkN => by
    have hi := ix_of hx
    have hi' : i < out.length := by omega
    have ei := w64_ix hi (fit_len hf)
    have hc : mdEHead.cn x = 1 + (1) := rfl
    obtain ⟨f0, f1⟩ := fit_at hf hx
    simp only [laws_markHeadS_l1, lt_of ho, cond_true, Option.bind_some, gi_of ho, siM_of hi', gi_of (setAt hi'), siM_of (show i < (out.set i _).length by simpa using hi'), List.set_set, ei, markText_eq (show 0 ≤ k by omega) (show k ≤ 536870912 by omega), w64_id (show -9223372036854775808 ≤ k + 1 by omega) (show k + 1 ≤ 9223372036854775807 by omega), w64_id (show -9223372036854775808 ≤ k + 1 by omega) (show k + 1 ≤ 9223372036854775807 by omega), w64_id (show -9223372036854775808 ≤ k + 1 + 1 by omega) (show k + 1 + 1 ≤ 9223372036854775807 by omega)]
    try rfl) (fun m k out hl => by
    simp only [laws_markHeadS_l1, ← hl, end_of, cond_false]) (by omega) h0 hN]
  rfl
def mdVRepo : MkD Repo := MkD.via (MkD.pair mdECommit.list mdEHead.list) (fun x => (x.Commits, x.Heads)) (fun p => ⟨p.1, p.2⟩) (fun _ => rfl)
theorem fit_mdVRepo : mdVRepo.Fits := MkD.fits_via (MkD.fits_pair (MkD.fits_list fit_mdECommit) (MkD.fits_list fit_mdEHead)) (fun _ h => h) (fun _ h => h)
theorem few_mdVRepo : mdVRepo.Few 6 := MkD.few_via (MkD.few_pair (MkD.few_list few_mdECommit) (MkD.few_list few_mdEHead)) (fun _ => rfl)
theorem emarkRepo {x : Repo} {k : Int} (hk : 0 ≤ k) (hkN : k + mdVRepo.cn x ≤ 536870912)(hf : Bk.fit x) : laws_markRepo x k = some (mdVRepo.wr k x) := by
  unfold laws_markRepo
  have hc : mdVRepo.cn x = mdECommit.list.cn x.Commits + (mdEHead.list.cn x.Heads) := rfl
  have e0 := mdECommit.list.fst (k) x.Commits
  have e1 := mdEHead.list.fst ((mdECommit.list.wr (k) x.Commits).1) x.Heads
  obtain ⟨f0, f1⟩ := hf
  simp only [Option.bind_some, emarkCommitS (k := k) (show 0 ≤ k by omega) (show k + mdECommit.list.cn x.Commits ≤ 536870912 by omega) f0, emarkHeadS (k := (mdECommit.list.wr (k) x.Commits).1) (show 0 ≤ (mdECommit.list.wr (k) x.Commits).1 by omega) (show (mdECommit.list.wr (k) x.Commits).1 + mdEHead.list.cn x.Heads ≤ 536870912 by omega) f1]
  try rfl
theorem eheldIntS {xs : List Int} {k : Int} (hH : mdInt.list.Held k xs) (h0 : 0 ≤ k) (hN : k + mdInt.list.cn xs ≤ 536870912) (hf : Bk.fit xs) : laws_heldIntS xs k = some (mdInt.list.wr k xs).1 := by
  have hh := MkD.list_held mdInt hH
  unfold laws_heldIntS
  simp only [jn, fuel0]
  rw [loop_held (xs := xs) (q := mdInt.Held) (b := mdInt.cn) (N := 536870912) (Z := fun k => some k) (f := fun m k i => laws_heldIntS_l1 xs (fun y1 _ _ => some y1) m k 0 i) (fun m k i x hx hq hk hkN => by
    have hi := ix_of hx
    have ei := w64_ix hi (fit_len hf)
    rw [← mdInt.fst k x]
    have hc : k + 1 ≤ 536870912 := hkN
    have q0 : k = x := hq
    simp only [laws_heldIntS_l1, lt_of hx, cond_true, Option.bind_some, gi_of hx, ei, bne_self_eq_false, cond_false, w64_id (show -9223372036854775808 ≤ k by omega) (show k ≤ 9223372036854775807 by omega), ← q0, w64_id (show -9223372036854775808 ≤ k + 1 by omega) (show k + 1 ≤ 9223372036854775807 by omega)]
    try rfl) (fun m k => by
    simp only [laws_heldIntS_l1, end_of, cond_false]) (by omega) h0 hN hh, mdInt.list.fst]
  rfl
theorem eheldStringS {xs : List Str} {k : Int} (hH : mdStr.list.Held k xs) (h0 : 0 ≤ k) (hN : k + mdStr.list.cn xs ≤ 536870912) (hf : Bk.fit xs) : laws_heldStringS xs k = some (mdStr.list.wr k xs).1 := by
  have hh := MkD.list_held mdStr hH
  unfold laws_heldStringS
  simp only [jn, fuel0]
  rw [loop_held (xs := xs) (q := mdStr.Held) (b := mdStr.cn) (N := 536870912) (Z := fun k => some k) (f := fun m k i => laws_heldStringS_l1 xs (fun y1 _ _ => some y1) m k 0 i) (fun m k i x hx hq hk hkN => by
    have hi := ix_of hx
    have ei := w64_ix hi (fit_len hf)
    rw [← mdStr.fst k x]
    have hc : k + 1 ≤ 536870912 := hkN
    have q0 : mt k = x := hq
    simp only [laws_heldStringS_l1, lt_of hx, cond_true, Option.bind_some, gi_of hx, ei, bne_self_eq_false, cond_false, markText_eq hk (by omega), q0, w64_id (show -9223372036854775808 ≤ k + 1 by omega) (show k + 1 ≤ 9223372036854775807 by omega)]
    try rfl) (fun m k => by
    simp only [laws_heldStringS_l1, end_of, cond_false]) (by omega) h0 hN hh, mdStr.list.fst]
  rfl
theorem eheldFileS {xs : List File} {k : Int} (hH : mdEFile.list.Held k xs) (h0 : 0 ≤ k) (hN : k + mdEFile.list.cn xs ≤ 536870912) (hf : Bk.fit xs) : laws_heldFileS xs k = some (mdEFile.list.wr k xs).1 := by
  have hh := MkD.list_held mdEFile hH
  unfold laws_heldFileS
  simp only [jn, fuel0]
  rw [loop_held (xs := xs) (q := mdEFile.Held) (b := mdEFile.cn) (N := 536870912) (Z := fun k => some k) (f := fun m k i => laws_heldFileS_l1 xs (fun y1 _ _ => some y1) m k 0 i) (fun m k i x hx hq hk hkN => by
    have hi := ix_of hx
    have ei := w64_ix hi (fit_len hf)
    rw [← mdEFile.fst k x]
    have hc : mdEFile.cn x = 1 + (mdStr.list.cn x.Text) := rfl
    have e1 := mdStr.list.fst (k + 1) x.Text
    obtain ⟨f0, f1⟩ := fit_at hf hx
    have q0 : mt (k) = x.Path := congrArg File.Path hq
    have q1 : mdStr.list.Held (k + 1) x.Text := congrArg File.Text hq
    simp only [laws_heldFileS_l1, lt_of hx, cond_true, Option.bind_some, gi_of hx, ei, bne_self_eq_false, cond_false, markText_eq (show 0 ≤ k by omega) (show k ≤ 536870912 by omega), w64_id (show -9223372036854775808 ≤ k + 1 by omega) (show k + 1 ≤ 9223372036854775807 by omega), q0, eheldStringS q1 (show 0 ≤ k + 1 by omega) (show k + 1 + mdStr.list.cn x.Text ≤ 536870912 by omega) f1, decide_eq_false (show ¬ (mdStr.list.wr (k + 1) x.Text).1 < 0 by omega)]
    try rfl) (fun m k => by
    simp only [laws_heldFileS_l1, end_of, cond_false]) (by omega) h0 hN hh, mdEFile.list.fst]
  rfl
theorem eheldCommitS {xs : List Commit} {k : Int} (hH : mdECommit.list.Held k xs) (h0 : 0 ≤ k) (hN : k + mdECommit.list.cn xs ≤ 536870912) (hf : Bk.fit xs) : laws_heldCommitS xs k = some (mdECommit.list.wr k xs).1 := by
  have hh := MkD.list_held mdECommit hH
  unfold laws_heldCommitS
  simp only [jn, fuel0]
  rw [loop_held (xs := xs) (q := mdECommit.Held) (b := mdECommit.cn) (N := 536870912) (Z := fun k => some k) (f := fun m k i => laws_heldCommitS_l1 xs (fun y1 _ _ => some y1) m k 0 i) (fun m k i x hx hq hk hkN => by
    have hi := ix_of hx
    have ei := w64_ix hi (fit_len hf)
    rw [← mdECommit.fst k x]
    have hc : mdECommit.cn x = mdInt.list.cn x.Parents + (1 + (mdEFile.list.cn x.Tree)) := rfl
    have e0 := mdInt.list.fst (k) x.Parents
    have e2 := mdEFile.list.fst ((mdInt.list.wr (k) x.Parents).1 + 1) x.Tree
    obtain ⟨f0, f1, f2⟩ := fit_at hf hx
    have q0 : mdInt.list.Held (k) x.Parents := congrArg Commit.Parents hq
    have q1 : mt ((mdInt.list.wr (k) x.Parents).1) = x.Who := congrArg Commit.Who hq
    have q2 : mdEFile.list.Held ((mdInt.list.wr (k) x.Parents).1 + 1) x.Tree := congrArg Commit.Tree hq
    simp only [laws_heldCommitS_l1, lt_of hx, cond_true, Option.bind_some, gi_of hx, ei, bne_self_eq_false, cond_false, markText_eq (show 0 ≤ (mdInt.list.wr (k) x.Parents).1 by omega) (show (mdInt.list.wr (k) x.Parents).1 ≤ 536870912 by omega), w64_id (show -9223372036854775808 ≤ (mdInt.list.wr (k) x.Parents).1 + 1 by omega) (show (mdInt.list.wr (k) x.Parents).1 + 1 ≤ 9223372036854775807 by omega), eheldIntS q0 (show 0 ≤ k by omega) (show k + mdInt.list.cn x.Parents ≤ 536870912 by omega) f0, decide_eq_false (show ¬ (mdInt.list.wr (k) x.Parents).1 < 0 by omega), q1, eheldFileS q2 (show 0 ≤ (mdInt.list.wr (k) x.Parents).1 + 1 by omega) (show (mdInt.list.wr (k) x.Parents).1 + 1 + mdEFile.list.cn x.Tree ≤ 536870912 by omega) f2, decide_eq_false (show ¬ (mdEFile.list.wr ((mdInt.list.wr (k) x.Parents).1 + 1) x.Tree).1 < 0 by omega)]
    try rfl) (fun m k => by
    simp only [laws_heldCommitS_l1, end_of, cond_false]) (by omega) h0 hN hh, mdECommit.list.fst]
  rfl
theorem eheldHeadS {xs : List Head} {k : Int} (hH : mdEHead.list.Held k xs) (h0 : 0 ≤ k) (hN : k + mdEHead.list.cn xs ≤ 536870912) (hf : Bk.fit xs) : laws_heldHeadS xs k = some (mdEHead.list.wr k xs).1 := by
  have hh := MkD.list_held mdEHead hH
  unfold laws_heldHeadS
  simp only [jn, fuel0]
  rw [loop_held (xs := xs) (q := mdEHead.Held) (b := mdEHead.cn) (N := 536870912) (Z := fun k => some k) (f := fun m k i => laws_heldHeadS_l1 xs (fun y1 _ _ => some y1) m k 0 i) (fun m k i x hx hq hk hkN => by
    have hi := ix_of hx
    have ei := w64_ix hi (fit_len hf)
    rw [← mdEHead.fst k x]
    have hc : mdEHead.cn x = 1 + (1) := rfl
    obtain ⟨f0, f1⟩ := fit_at hf hx
    have q0 : mt (k) = x.Name := congrArg Head.Name hq
    have q1 : k + 1 = x.At := congrArg Head.At hq
    simp only [laws_heldHeadS_l1, lt_of hx, cond_true, Option.bind_some, gi_of hx, ei, bne_self_eq_false, cond_false, markText_eq (show 0 ≤ k by omega) (show k ≤ 536870912 by omega), w64_id (show -9223372036854775808 ≤ k + 1 by omega) (show k + 1 ≤ 9223372036854775807 by omega), w64_id (show -9223372036854775808 ≤ k + 1 by omega) (show k + 1 ≤ 9223372036854775807 by omega), w64_id (show -9223372036854775808 ≤ k + 1 + 1 by omega) (show k + 1 + 1 ≤ 9223372036854775807 by omega), q0, ← q1]
    try rfl) (fun m k => by
    simp only [laws_heldHeadS_l1, end_of, cond_false]) (by omega) h0 hN hh, mdEHead.list.fst]
  rfl
theorem eheldRepo {x : Repo} {k : Int} (hq : mdVRepo.Held k x) (hk : 0 ≤ k) (hkN : k + mdVRepo.cn x ≤ 536870912)(hf : Bk.fit x) : laws_heldRepo x k = some (mdVRepo.wr k x).1 := by
  unfold laws_heldRepo
  have hc : mdVRepo.cn x = mdECommit.list.cn x.Commits + (mdEHead.list.cn x.Heads) := rfl
  have e0 := mdECommit.list.fst (k) x.Commits
  have e1 := mdEHead.list.fst ((mdECommit.list.wr (k) x.Commits).1) x.Heads
  obtain ⟨f0, f1⟩ := hf
  have q0 : mdECommit.list.Held (k) x.Commits := congrArg Repo.Commits hq
  have q1 : mdEHead.list.Held ((mdECommit.list.wr (k) x.Commits).1) x.Heads := congrArg Repo.Heads hq
  simp only [Option.bind_some, bne_self_eq_false, cond_false, eheldCommitS q0 (show 0 ≤ k by omega) (show k + mdECommit.list.cn x.Commits ≤ 536870912 by omega) f0, decide_eq_false (show ¬ (mdECommit.list.wr (k) x.Commits).1 < 0 by omega), eheldHeadS q1 (show 0 ≤ (mdECommit.list.wr (k) x.Commits).1 by omega) (show (mdECommit.list.wr (k) x.Commits).1 + mdEHead.list.cn x.Heads ≤ 536870912 by omega) f1, decide_eq_false (show ¬ (mdEHead.list.wr ((mdECommit.list.wr (k) x.Commits).1) x.Heads).1 < 0 by omega)]
  try rfl
end Go.Vm
