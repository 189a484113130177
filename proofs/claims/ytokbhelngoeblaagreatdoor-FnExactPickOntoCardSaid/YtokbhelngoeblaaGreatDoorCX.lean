/- Plain laws of the statements' own helpers: they count bulk, copy, compare, mark; printed by a program of ours. Conditions: each law's own premises. -/
import Derived.Test.YtokbhelngoeblaaGreatDoorCLw
import Derived.Test.YtokbhelngoeblaaGreatDoorCM1
import Derived.Test.YtokbhelngoeblaaGreatDoorCM4
import Derived.Test.YtokbhelngoeblaaGreatDoorCM6
namespace Go.Vm
open Go Go.Sx
set_option linter.unusedSimpArgs false
set_option linter.unusedVariables false
theorem zze {xs : List Int} {n : Int} (hf : Bk.fit xs) (h0 : 0 ≤ n) (hN : n ≤ 1048576) : znr xs n = some (if (Bk.bulk xs : Int) ≤ n then n - Bk.bulk xs else -1) := by
  have hl := zcI hf
  unfold znr
  have hw : w64 (n - (xs.length : Int)) = n - xs.length := zai (by unfold maxi at hl; omega) (by omega)
  have hb : (Bk.bulk xs : Int) = xs.length + sumB Bk.bulk xs := by simp [Bk.bulk]
  simp only [hw, jn, zal]
  by_cases h : n - (xs.length : Int) < 0
  · rw [decide_eq_true h, cond_true, if_neg (by omega)]
  · rw [decide_eq_false h, cond_false]
    have hz : sumB Bk.bulk xs = 0 := by
      clear hb h hw hN h0 hl hf
      induction xs with
      | nil => rfl
      | cons x xs ih => show 0 + sumB Bk.bulk xs = 0; omega
    rw [if_pos (by omega)]
    congr 1; omega
theorem zti {xs : List Str} {n : Int} (hf : Bk.fit xs) (h0 : 0 ≤ n) (hN : n ≤ 1048576) : zg9 xs n = some (if (Bk.bulk xs : Int) ≤ n then n - Bk.bulk xs else -1) := by
  have hl := zcI hf
  unfold zg9
  have hw : w64 (n - (xs.length : Int)) = n - xs.length := zai (by unfold maxi at hl; omega) (by omega)
  have hb : (Bk.bulk xs : Int) = xs.length + sumB Bk.bulk xs := by simp [Bk.bulk]
  simp only [hw, jn, zal]
  by_cases h : n - (xs.length : Int) < 0
  · rw [decide_eq_true h, cond_true, if_neg (by omega)]
  · rw [decide_eq_false h, cond_false]
    rw [zpf (α := Str) (xs := xs) (b := Bk.bulk) (N := 1048576) (r0 := some (-1)) (Z := fun a => some a) (f := fun m a i => zee xs (fun y2 _ _ => some y2) m a 0 i) (fun m a i x hx ha hA => by
      have hx2 : x.length ≤ maxi := zgH hf hx
      have hw2 : w64 (a - (x.length : Int)) = a - x.length := zai (by unfold maxi at hx2; omega) (by omega)
      simp only [zee, zak hx, zad hx, cond_true, Option.bind_some, hw2, zab (zas hx) hl]
      by_cases h1 : a - (x.length : Int) < 0
      · rw [decide_eq_true h1, cond_true, if_neg (by simp only [Bk.bulk]; omega)]
      · rw [decide_eq_false h1, cond_false, if_pos (by simp only [Bk.bulk]; omega)]; rfl) (fun m a => by
      simp only [zee, zac, cond_false]) (by omega) (by omega) (by omega)]
    by_cases h2 : (sumB Bk.bulk xs : Int) ≤ n - xs.length
    · rw [if_pos h2, if_pos (by omega), hb]; congr 1; omega
    · rw [if_neg h2, if_neg (by omega)]
theorem zzf {x : File} {n : Int} (hf : Bk.fit x) (h0 : 0 ≤ n) (hN : n ≤ 1048576) : zns x n = some (if (Bk.bulk x : Int) ≤ n then n - Bk.bulk x else -1) := by
  obtain ⟨f0, f1⟩ := hf
  have hb : Bk.bulk x = Bk.bulk x.Path + (Bk.bulk x.Text) := rfl
  have b0 : Bk.bulk x.Path = x.Path.length := rfl
  have g0 : x.Path.length ≤ maxi := f0
  unfold maxi at g0
  unfold zns
  have w0 : w64 (n - (x.Path.length : Int)) = n - (x.Path.length : Int) := zai (by omega) (by omega)
  simp only [w0]
  by_cases h0 : n - (x.Path.length : Int) < 0
  case pos => rw [decide_eq_true h0, cond_true, if_neg (by omega)]
  rw [decide_eq_false h0, cond_false]
  rw [zti f1 (by omega) (by omega), Option.bind_some]
  by_cases h1 : (Bk.bulk x.Text : Int) ≤ n - (x.Path.length : Int)
  case neg => rw [if_neg h1, if_neg (by omega)]; rfl
  rw [if_pos h1, decide_eq_false (by omega), cond_false]
  rw [if_pos (by omega)]
  congr 1 <;> omega
theorem zxX {xs : List File} {n : Int} (hf : Bk.fit xs) (h0 : 0 ≤ n) (hN : n ≤ 1048576) : zl8 xs n = some (if (Bk.bulk xs : Int) ≤ n then n - Bk.bulk xs else -1) := by
  have hl := zcI hf
  unfold zl8
  have hw : w64 (n - (xs.length : Int)) = n - xs.length := zai (by unfold maxi at hl; omega) (by omega)
  have hb : (Bk.bulk xs : Int) = xs.length + sumB Bk.bulk xs := by simp [Bk.bulk]
  simp only [hw, jn, zal]
  by_cases h : n - (xs.length : Int) < 0
  · rw [decide_eq_true h, cond_true, if_neg (by omega)]
  · rw [decide_eq_false h, cond_false]
    rw [zpf (α := File) (xs := xs) (b := Bk.bulk) (N := 1048576) (r0 := some (-1)) (Z := fun a => some a) (f := fun m a i => ziF xs (fun y2 _ _ => some y2) m a 0 i) (fun m a i x hx ha hA => by
      simp only [ziF, zak hx, zad hx, cond_true, Option.bind_some, zzf (zgH hf hx) ha hA, zab (zas hx) hl]
      by_cases h1 : (Bk.bulk x : Int) ≤ a
      · rw [if_pos h1, decide_eq_false (by omega), cond_false, if_pos h1]
      · rw [if_neg h1, if_neg h1]; rfl) (fun m a => by
      simp only [ziF, zac, cond_false]) (by omega) (by omega) (by omega)]
    by_cases h2 : (sumB Bk.bulk xs : Int) ≤ n - xs.length
    · rw [if_pos h2, if_pos (by omega), hb]; congr 1; omega
    · rw [if_neg h2, if_neg (by omega)]
theorem zxd {x : Commit} {n : Int} (hf : Bk.fit x) (h0 : 0 ≤ n) (hN : n ≤ 1048576) : zlA x n = some (if (Bk.bulk x : Int) ≤ n then n - Bk.bulk x else -1) := by
  obtain ⟨f0, f1, f2⟩ := hf
  have hb : Bk.bulk x = Bk.bulk x.Parents + (Bk.bulk x.Who + (Bk.bulk x.Tree)) := rfl
  have b1 : Bk.bulk x.Who = x.Who.length := rfl
  have g1 : x.Who.length ≤ maxi := f1
  unfold maxi at g1
  unfold zlA
  rw [zze f0 (by omega) (by omega), Option.bind_some]
  by_cases h0 : (Bk.bulk x.Parents : Int) ≤ n
  case neg => rw [if_neg h0, if_neg (by omega)]; rfl
  rw [if_pos h0, decide_eq_false (by omega), cond_false]
  have w1 : w64 (n - (Bk.bulk x.Parents : Int) - (x.Who.length : Int)) = n - (Bk.bulk x.Parents : Int) - (x.Who.length : Int) := zai (by omega) (by omega)
  simp only [w1]
  by_cases h1 : n - (Bk.bulk x.Parents : Int) - (x.Who.length : Int) < 0
  case pos => rw [decide_eq_true h1, cond_true, if_neg (by omega)]
  rw [decide_eq_false h1, cond_false]
  rw [zxX f2 (by omega) (by omega), Option.bind_some]
  by_cases h2 : (Bk.bulk x.Tree : Int) ≤ n - (Bk.bulk x.Parents : Int) - (x.Who.length : Int)
  case neg => rw [if_neg h2, if_neg (by omega)]; rfl
  rw [if_pos h2, decide_eq_false (by omega), cond_false]
  rw [if_pos (by omega)]
  congr 1 <;> omega
theorem zv3 {xs : List Commit} {n : Int} (hf : Bk.fit xs) (h0 : 0 ≤ n) (hN : n ≤ 1048576) : zko xs n = some (if (Bk.bulk xs : Int) ≤ n then n - Bk.bulk xs else -1) := by
  have hl := zcI hf
  unfold zko
  have hw : w64 (n - (xs.length : Int)) = n - xs.length := zai (by unfold maxi at hl; omega) (by omega)
  have hb : (Bk.bulk xs : Int) = xs.length + sumB Bk.bulk xs := by simp [Bk.bulk]
  simp only [hw, jn, zal]
  by_cases h : n - (xs.length : Int) < 0
  · rw [decide_eq_true h, cond_true, if_neg (by omega)]
  · rw [decide_eq_false h, cond_false]
    rw [zpf (α := Commit) (xs := xs) (b := Bk.bulk) (N := 1048576) (r0 := some (-1)) (Z := fun a => some a) (f := fun m a i => zgO xs (fun y2 _ _ => some y2) m a 0 i) (fun m a i x hx ha hA => by
      simp only [zgO, zak hx, zad hx, cond_true, Option.bind_some, zxd (zgH hf hx) ha hA, zab (zas hx) hl]
      by_cases h1 : (Bk.bulk x : Int) ≤ a
      · rw [if_pos h1, decide_eq_false (by omega), cond_false, if_pos h1]
      · rw [if_neg h1, if_neg h1]; rfl) (fun m a => by
      simp only [zgO, zac, cond_false]) (by omega) (by omega) (by omega)]
    by_cases h2 : (sumB Bk.bulk xs : Int) ≤ n - xs.length
    · rw [if_pos h2, if_pos (by omega), hb]; congr 1; omega
    · rw [if_neg h2, if_neg (by omega)]
theorem zzg {x : Head} {n : Int} (hf : Bk.fit x) (h0 : 0 ≤ n) (hN : n ≤ 1048576) : znt x n = some (if (Bk.bulk x : Int) ≤ n then n - Bk.bulk x else -1) := by
  obtain ⟨f0, f1⟩ := hf
  have hb : Bk.bulk x = Bk.bulk x.Name + (Bk.bulk x.At) := rfl
  have b0 : Bk.bulk x.Name = x.Name.length := rfl
  have g0 : x.Name.length ≤ maxi := f0
  unfold maxi at g0
  have b1 : Bk.bulk x.At = 0 := rfl
  unfold znt
  have w0 : w64 (n - (x.Name.length : Int)) = n - (x.Name.length : Int) := zai (by omega) (by omega)
  simp only [w0]
  by_cases h0 : n - (x.Name.length : Int) < 0
  case pos => rw [decide_eq_true h0, cond_true, if_neg (by omega)]
  rw [decide_eq_false h0, cond_false]
  rw [if_pos (by omega)]
  congr 1 <;> omega
theorem zxY {xs : List Head} {n : Int} (hf : Bk.fit xs) (h0 : 0 ≤ n) (hN : n ≤ 1048576) : zl9 xs n = some (if (Bk.bulk xs : Int) ≤ n then n - Bk.bulk xs else -1) := by
  have hl := zcI hf
  unfold zl9
  have hw : w64 (n - (xs.length : Int)) = n - xs.length := zai (by unfold maxi at hl; omega) (by omega)
  have hb : (Bk.bulk xs : Int) = xs.length + sumB Bk.bulk xs := by simp [Bk.bulk]
  simp only [hw, jn, zal]
  by_cases h : n - (xs.length : Int) < 0
  · rw [decide_eq_true h, cond_true, if_neg (by omega)]
  · rw [decide_eq_false h, cond_false]
    rw [zpf (α := Head) (xs := xs) (b := Bk.bulk) (N := 1048576) (r0 := some (-1)) (Z := fun a => some a) (f := fun m a i => ziG xs (fun y2 _ _ => some y2) m a 0 i) (fun m a i x hx ha hA => by
      simp only [ziG, zak hx, zad hx, cond_true, Option.bind_some, zzg (zgH hf hx) ha hA, zab (zas hx) hl]
      by_cases h1 : (Bk.bulk x : Int) ≤ a
      · rw [if_pos h1, decide_eq_false (by omega), cond_false, if_pos h1]
      · rw [if_neg h1, if_neg h1]; rfl) (fun m a => by
      simp only [ziG, zac, cond_false]) (by omega) (by omega) (by omega)]
    by_cases h2 : (sumB Bk.bulk xs : Int) ≤ n - xs.length
    · rw [if_pos h2, if_pos (by omega), hb]; congr 1; omega
    · rw [if_neg h2, if_neg (by omega)]
theorem zxZ {x : Owner} {n : Int} (hf : Bk.fit x) (h0 : 0 ≤ n) (hN : n ≤ 1048576) : zmh x n = some (if (Bk.bulk x : Int) ≤ n then n - Bk.bulk x else -1) := by
  obtain ⟨f0, f1⟩ := hf
  have hb : Bk.bulk x = Bk.bulk x.Path + (Bk.bulk x.Who) := rfl
  have b0 : Bk.bulk x.Path = x.Path.length := rfl
  have g0 : x.Path.length ≤ maxi := f0
  unfold maxi at g0
  have b1 : Bk.bulk x.Who = x.Who.length := rfl
  have g1 : x.Who.length ≤ maxi := f1
  unfold maxi at g1
  unfold zmh
  have w0 : w64 (n - (x.Path.length : Int)) = n - (x.Path.length : Int) := zai (by omega) (by omega)
  simp only [w0]
  by_cases h0 : n - (x.Path.length : Int) < 0
  case pos => rw [decide_eq_true h0, cond_true, if_neg (by omega)]
  rw [decide_eq_false h0, cond_false]
  have w1 : w64 (n - (x.Path.length : Int) - (x.Who.length : Int)) = n - (x.Path.length : Int) - (x.Who.length : Int) := zai (by omega) (by omega)
  simp only [w1]
  by_cases h1 : n - (x.Path.length : Int) - (x.Who.length : Int) < 0
  case pos => rw [decide_eq_true h1, cond_true, if_neg (by omega)]
  rw [decide_eq_false h1, cond_false]
  rw [if_pos (by omega)]
  congr 1 <;> omega
theorem zrj {xs : List Owner} {n : Int} (hf : Bk.fit xs) (h0 : 0 ≤ n) (hN : n ≤ 1048576) : zj8 xs n = some (if (Bk.bulk xs : Int) ≤ n then n - Bk.bulk xs else -1) := by
  have hl := zcI hf
  unfold zj8
  have hw : w64 (n - (xs.length : Int)) = n - xs.length := zai (by unfold maxi at hl; omega) (by omega)
  have hb : (Bk.bulk xs : Int) = xs.length + sumB Bk.bulk xs := by simp [Bk.bulk]
  simp only [hw, jn, zal]
  by_cases h : n - (xs.length : Int) < 0
  · rw [decide_eq_true h, cond_true, if_neg (by omega)]
  · rw [decide_eq_false h, cond_false]
    rw [zpf (α := Owner) (xs := xs) (b := Bk.bulk) (N := 1048576) (r0 := some (-1)) (Z := fun a => some a) (f := fun m a i => zhR xs (fun y2 _ _ => some y2) m a 0 i) (fun m a i x hx ha hA => by
      simp only [zhR, zak hx, zad hx, cond_true, Option.bind_some, zxZ (zgH hf hx) ha hA, zab (zas hx) hl]
      by_cases h1 : (Bk.bulk x : Int) ≤ a
      · rw [if_pos h1, decide_eq_false (by omega), cond_false, if_pos h1]
      · rw [if_neg h1, if_neg h1]; rfl) (fun m a => by
      simp only [zhR, zac, cond_false]) (by omega) (by omega) (by omega)]
    by_cases h2 : (sumB Bk.bulk xs : Int) ≤ n - xs.length
    · rw [if_pos h2, if_pos (by omega), hb]; congr 1; omega
    · rw [if_neg h2, if_neg (by omega)]
theorem zrI {x : Repo} {n : Int} (hf : Bk.fit x) (h0 : 0 ≤ n) (hN : n ≤ 1048576) : zln x n = some (if (Bk.bulk x : Int) ≤ n then n - Bk.bulk x else -1) := by
  obtain ⟨f0, f1⟩ := hf
  have hb : Bk.bulk x = Bk.bulk x.Commits + (Bk.bulk x.Heads) := rfl
  unfold zln
  rw [zv3 f0 (by omega) (by omega), Option.bind_some]
  by_cases h0 : (Bk.bulk x.Commits : Int) ≤ n
  case neg => rw [if_neg h0, if_neg (by omega)]; rfl
  rw [if_pos h0, decide_eq_false (by omega), cond_false]
  rw [zxY f1 (by omega) (by omega), Option.bind_some]
  by_cases h1 : (Bk.bulk x.Heads : Int) ≤ n - (Bk.bulk x.Commits : Int)
  case neg => rw [if_neg h1, if_neg (by omega)]; rfl
  rw [if_pos h1, decide_eq_false (by omega), cond_false]
  rw [if_pos (by omega)]
  congr 1 <;> omega
theorem zrk {x : Review} {n : Int} (hf : Bk.fit x) (h0 : 0 ≤ n) (hN : n ≤ 1048576) : zj9 x n = some (if (Bk.bulk x : Int) ≤ n then n - Bk.bulk x else -1) := by
  obtain ⟨f0, f1, f2, f3⟩ := hf
  have hb : Bk.bulk x = Bk.bulk x.Branch + (Bk.bulk x.Into + (Bk.bulk x.By + (Bk.bulk x.Yes))) := rfl
  have b0 : Bk.bulk x.Branch = x.Branch.length := rfl
  have g0 : x.Branch.length ≤ maxi := f0
  unfold maxi at g0
  have b1 : Bk.bulk x.Into = x.Into.length := rfl
  have g1 : x.Into.length ≤ maxi := f1
  unfold maxi at g1
  have b2 : Bk.bulk x.By = x.By.length := rfl
  have g2 : x.By.length ≤ maxi := f2
  unfold maxi at g2
  unfold zj9
  have w0 : w64 (n - (x.Branch.length : Int)) = n - (x.Branch.length : Int) := zai (by omega) (by omega)
  simp only [w0]
  by_cases h0 : n - (x.Branch.length : Int) < 0
  case pos => rw [decide_eq_true h0, cond_true, if_neg (by omega)]
  rw [decide_eq_false h0, cond_false]
  have w1 : w64 (n - (x.Branch.length : Int) - (x.Into.length : Int)) = n - (x.Branch.length : Int) - (x.Into.length : Int) := zai (by omega) (by omega)
  simp only [w1]
  by_cases h1 : n - (x.Branch.length : Int) - (x.Into.length : Int) < 0
  case pos => rw [decide_eq_true h1, cond_true, if_neg (by omega)]
  rw [decide_eq_false h1, cond_false]
  have w2 : w64 (n - (x.Branch.length : Int) - (x.Into.length : Int) - (x.By.length : Int)) = n - (x.Branch.length : Int) - (x.Into.length : Int) - (x.By.length : Int) := zai (by omega) (by omega)
  simp only [w2]
  by_cases h2 : n - (x.Branch.length : Int) - (x.Into.length : Int) - (x.By.length : Int) < 0
  case pos => rw [decide_eq_true h2, cond_true, if_neg (by omega)]
  rw [decide_eq_false h2, cond_false]
  rw [zti f3 (by omega) (by omega), Option.bind_some]
  by_cases h3 : (Bk.bulk x.Yes : Int) ≤ n - (x.Branch.length : Int) - (x.Into.length : Int) - (x.By.length : Int)
  case neg => rw [if_neg h3, if_neg (by omega)]; rfl
  rw [if_pos h3, decide_eq_false (by omega), cond_false]
  rw [if_pos (by omega)]
  congr 1 <;> omega
theorem zzh {xs : List Int} (h : Bk.bulk xs ≤ 1048576) : znu xs = some xs := by
  have hl := zcr h
  unfold znu
  simp only [zg2 (zsw hl), jn, zal, Option.bind_some]
  rw [zow (g := id) (Z := fun ys => some ys) (f := fun m i out => zjo xs (fun _ y6 => some y6) m i out) (fun m i x out hx ho => by
    have hi := zas hx
    simp only [zjo, zak hx, zad hx, cond_true, Option.bind_some, zab hi (zan hl), zbD (show i < out.length by omega), zad (List.getElem?_eq_getElem (show i < out.length by omega)), id]) (fun m out => by
    simp only [zjo, zac, cond_false]) (by omega)]
  simp
theorem ztj {xs : List Str} (h : Bk.bulk xs ≤ 1048576) : zha xs = some xs := by
  have hl := zcr h
  unfold zha
  simp only [zg2 (zsw hl), jn, zal, Option.bind_some]
  rw [zow (g := id) (Z := fun ys => some ys) (f := fun m i out => zef xs (fun _ y6 => some y6) m i out) (fun m i x out hx ho => by
    have hi := zas hx
    simp only [zef, zak hx, zad hx, cond_true, Option.bind_some, zab hi (zan hl), zbD (show i < out.length by omega), zad (List.getElem?_eq_getElem (show i < out.length by omega)), id]) (fun m out => by
    simp only [zef, zac, cond_false]) (by omega)]
  simp
theorem zzi {x : File} (h : Bk.bulk x ≤ 1048576) : znv x = some x := by
  have hb : Bk.bulk x = Bk.bulk x.Path + (Bk.bulk x.Text) := rfl
  unfold znv
  simp only [ztj (show Bk.bulk x.Text ≤ 1048576 by omega), Option.bind_some]
theorem zx0 {xs : List File} (h : Bk.bulk xs ≤ 1048576) : zma xs = some xs := by
  have hl := zcr h
  unfold zma
  simp only [zg2 (zsw hl), jn, zal, Option.bind_some]
  rw [zow (g := id) (Z := fun ys => some ys) (f := fun m i out => ziH xs (fun _ y6 => some y6) m i out) (fun m i x out hx ho => by
    have hi := zas hx
    simp only [ziH, zak hx, zad hx, cond_true, Option.bind_some, zzi (ztE h hx), zab hi (zan hl), zbD (show i < out.length by omega), zad (List.getElem?_eq_getElem (show i < out.length by omega)), id]) (fun m out => by
    simp only [ziH, zac, cond_false]) (by omega)]
  simp
theorem zxe {x : Commit} (h : Bk.bulk x ≤ 1048576) : zlB x = some x := by
  have hb : Bk.bulk x = Bk.bulk x.Parents + (Bk.bulk x.Who + (Bk.bulk x.Tree)) := rfl
  unfold zlB
  simp only [zzh (show Bk.bulk x.Parents ≤ 1048576 by omega), zx0 (show Bk.bulk x.Tree ≤ 1048576 by omega), Option.bind_some]
theorem zv4 {xs : List Commit} (h : Bk.bulk xs ≤ 1048576) : zkp xs = some xs := by
  have hl := zcr h
  unfold zkp
  simp only [zg2 (zsw hl), jn, zal, Option.bind_some]
  rw [zow (g := id) (Z := fun ys => some ys) (f := fun m i out => zgP xs (fun _ y6 => some y6) m i out) (fun m i x out hx ho => by
    have hi := zas hx
    simp only [zgP, zak hx, zad hx, cond_true, Option.bind_some, zxe (ztE h hx), zab hi (zan hl), zbD (show i < out.length by omega), zad (List.getElem?_eq_getElem (show i < out.length by omega)), id]) (fun m out => by
    simp only [zgP, zac, cond_false]) (by omega)]
  simp
theorem zzj {x : Head} (h : Bk.bulk x ≤ 1048576) : znw x = some x := by
  have hb : Bk.bulk x = Bk.bulk x.Name + (Bk.bulk x.At) := rfl
  unfold znw
  rfl
theorem zx1 {xs : List Head} (h : Bk.bulk xs ≤ 1048576) : zmb xs = some xs := by
  have hl := zcr h
  unfold zmb
  simp only [zg2 (zsw hl), jn, zal, Option.bind_some]
  rw [zow (g := id) (Z := fun ys => some ys) (f := fun m i out => ziI xs (fun _ y6 => some y6) m i out) (fun m i x out hx ho => by
    have hi := zas hx
    simp only [ziI, zak hx, zad hx, cond_true, Option.bind_some, zzj (ztE h hx), zab hi (zan hl), zbD (show i < out.length by omega), zad (List.getElem?_eq_getElem (show i < out.length by omega)), id]) (fun m out => by
    simp only [ziI, zac, cond_false]) (by omega)]
  simp
theorem zx2 {x : Owner} (h : Bk.bulk x ≤ 1048576) : zmi x = some x := by
  have hb : Bk.bulk x = Bk.bulk x.Path + (Bk.bulk x.Who) := rfl
  unfold zmi
  rfl
theorem zrl {xs : List Owner} (h : Bk.bulk xs ≤ 1048576) : zfd xs = some xs := by
  have hl := zcr h
  unfold zfd
  simp only [zg2 (zsw hl), jn, zal, Option.bind_some]
  rw [zow (g := id) (Z := fun ys => some ys) (f := fun m i out => zhS xs (fun _ y6 => some y6) m i out) (fun m i x out hx ho => by
    have hi := zas hx
    simp only [zhS, zak hx, zad hx, cond_true, Option.bind_some, zx2 (ztE h hx), zab hi (zan hl), zbD (show i < out.length by omega), zad (List.getElem?_eq_getElem (show i < out.length by omega)), id]) (fun m out => by
    simp only [zhS, zac, cond_false]) (by omega)]
  simp
theorem zrJ {x : Repo} (h : Bk.bulk x ≤ 1048576) : zeU x = some x := by
  have hb : Bk.bulk x = Bk.bulk x.Commits + (Bk.bulk x.Heads) := rfl
  unfold zeU
  simp only [zv4 (show Bk.bulk x.Commits ≤ 1048576 by omega), zx1 (show Bk.bulk x.Heads ≤ 1048576 by omega), Option.bind_some]
theorem zrm {x : Review} (h : Bk.bulk x ≤ 1048576) : zfe x = some x := by
  have hb : Bk.bulk x = Bk.bulk x.Branch + (Bk.bulk x.Into + (Bk.bulk x.By + (Bk.bulk x.Yes))) := rfl
  unfold zfe
  simp only [ztj (show Bk.bulk x.Yes ≤ 1048576 by omega), Option.bind_some]
theorem zzk {xs ys : List Int} (h : Bk.fit xs) : znx xs ys = some (xs == ys) := by
  have hl := zcI h
  unfold znx
  simp only [zj6, jn, zal]
  by_cases hn : xs.length = ys.length
  · rw [hn, beq_self_eq_true, Bool.not_true, cond_false, ← hn]
    rw [zj5 (α := Int) (r0 := some false) (Z := some true) (f := fun m i => zjp xs ys (fun _ _ => some true) m false i) hn (fun m i x y hx hy => by
      simp only [zjp, zak hx, zad hx, zad hy, cond_true, Option.bind_some, zab (zas hx) hl, bne]
      cases x == y <;> rfl) (fun m => by simp only [zjp, zac, cond_false]) (by omega)]
    cases xs == ys <;> rfl
  · rw [beq_false_of_ne hn, Bool.not_false, cond_true, beq_false_of_ne (fun e => hn (by rw [e]))]
theorem zqy {xs ys : List Str} (h : Bk.fit xs) : zeW xs ys = some (xs == ys) := by
  have hl := zcI h
  unfold zeW
  simp only [zj6, jn, zal]
  by_cases hn : xs.length = ys.length
  · rw [hn, beq_self_eq_true, Bool.not_true, cond_false, ← hn]
    rw [zj5 (α := Str) (r0 := some false) (Z := some true) (f := fun m i => zeg xs ys (fun _ _ => some true) m false i) hn (fun m i x y hx hy => by
      simp only [zeg, zak hx, zad hx, zad hy, cond_true, Option.bind_some, zab (zas hx) hl, bne]
      cases x == y <;> rfl) (fun m => by simp only [zeg, zac, cond_false]) (by omega)]
    cases xs == ys <;> rfl
  · rw [beq_false_of_ne hn, Bool.not_false, cond_true, beq_false_of_ne (fun e => hn (by rw [e]))]
theorem zzl {x y : File} (h : Bk.fit x) : zny x y = some (x == y) := by
  obtain ⟨f0, f1⟩ := h
  unfold zny
  simp only [zqy f1, Option.bind_some, bne]
  obtain ⟨a0, a1⟩ := x
  obtain ⟨b0, b1⟩ := y
  have : ((⟨a0, a1⟩ : File) == ⟨b0, b1⟩) = (a0 == b0 && (a1 == b1)) := by
    have hb : ∀ b c : Bool, (b = true ↔ c = true) → b = c := by decide
    apply hb
    simp
  rw [this]
  cases a0 == b0 <;> cases a1 == b1 <;> rfl
theorem zx3 {xs ys : List File} (h : Bk.fit xs) : zmc xs ys = some (xs == ys) := by
  have hl := zcI h
  unfold zmc
  simp only [zj6, jn, zal]
  by_cases hn : xs.length = ys.length
  · rw [hn, beq_self_eq_true, Bool.not_true, cond_false, ← hn]
    rw [zj5 (α := File) (r0 := some false) (Z := some true) (f := fun m i => ziJ xs ys (fun _ _ => some true) m false i) hn (fun m i x y hx hy => by
      simp only [ziJ, zak hx, zad hx, zad hy, cond_true, Option.bind_some, zab (zas hx) hl, zzl (zgH h hx)]
      cases x == y <;> rfl) (fun m => by simp only [ziJ, zac, cond_false]) (by omega)]
    cases xs == ys <;> rfl
  · rw [beq_false_of_ne hn, Bool.not_false, cond_true, beq_false_of_ne (fun e => hn (by rw [e]))]
theorem zxf {x y : Commit} (h : Bk.fit x) : zlC x y = some (x == y) := by
  obtain ⟨f0, f1, f2⟩ := h
  unfold zlC
  simp only [zzk f0, zx3 f2, Option.bind_some, bne]
  obtain ⟨a0, a1, a2⟩ := x
  obtain ⟨b0, b1, b2⟩ := y
  have : ((⟨a0, a1, a2⟩ : Commit) == ⟨b0, b1, b2⟩) = (a0 == b0 && (a1 == b1 && (a2 == b2))) := by
    have hb : ∀ b c : Bool, (b = true ↔ c = true) → b = c := by decide
    apply hb
    simp
  rw [this]
  cases a0 == b0 <;> cases a1 == b1 <;> cases a2 == b2 <;> rfl
theorem zv5 {xs ys : List Commit} (h : Bk.fit xs) : zkq xs ys = some (xs == ys) := by
  have hl := zcI h
  unfold zkq
  simp only [zj6, jn, zal]
  by_cases hn : xs.length = ys.length
  · rw [hn, beq_self_eq_true, Bool.not_true, cond_false, ← hn]
    rw [zj5 (α := Commit) (r0 := some false) (Z := some true) (f := fun m i => zgQ xs ys (fun _ _ => some true) m false i) hn (fun m i x y hx hy => by
      simp only [zgQ, zak hx, zad hx, zad hy, cond_true, Option.bind_some, zab (zas hx) hl, zxf (zgH h hx)]
      cases x == y <;> rfl) (fun m => by simp only [zgQ, zac, cond_false]) (by omega)]
    cases xs == ys <;> rfl
  · rw [beq_false_of_ne hn, Bool.not_false, cond_true, beq_false_of_ne (fun e => hn (by rw [e]))]
theorem zzm {x y : Head} (h : Bk.fit x) : znz x y = some (x == y) := by
  obtain ⟨f0, f1⟩ := h
  unfold znz
  simp only [Option.bind_some, bne]
  obtain ⟨a0, a1⟩ := x
  obtain ⟨b0, b1⟩ := y
  have : ((⟨a0, a1⟩ : Head) == ⟨b0, b1⟩) = (a0 == b0 && (a1 == b1)) := by
    have hb : ∀ b c : Bool, (b = true ↔ c = true) → b = c := by decide
    apply hb
    simp
  rw [this]
  cases a0 == b0 <;> cases a1 == b1 <;> rfl
theorem zx4 {xs ys : List Head} (h : Bk.fit xs) : zmd xs ys = some (xs == ys) := by
  have hl := zcI h
  unfold zmd
  simp only [zj6, jn, zal]
  by_cases hn : xs.length = ys.length
  · rw [hn, beq_self_eq_true, Bool.not_true, cond_false, ← hn]
    rw [zj5 (α := Head) (r0 := some false) (Z := some true) (f := fun m i => ziK xs ys (fun _ _ => some true) m false i) hn (fun m i x y hx hy => by
      simp only [ziK, zak hx, zad hx, zad hy, cond_true, Option.bind_some, zab (zas hx) hl, zzm (zgH h hx)]
      cases x == y <;> rfl) (fun m => by simp only [ziK, zac, cond_false]) (by omega)]
    cases xs == ys <;> rfl
  · rw [beq_false_of_ne hn, Bool.not_false, cond_true, beq_false_of_ne (fun e => hn (by rw [e]))]
theorem zx5 {x y : Owner} (h : Bk.fit x) : zmj x y = some (x == y) := by
  obtain ⟨f0, f1⟩ := h
  unfold zmj
  simp only [Option.bind_some, bne]
  obtain ⟨a0, a1⟩ := x
  obtain ⟨b0, b1⟩ := y
  have : ((⟨a0, a1⟩ : Owner) == ⟨b0, b1⟩) = (a0 == b0 && (a1 == b1)) := by
    have hb : ∀ b c : Bool, (b = true ↔ c = true) → b = c := by decide
    apply hb
    simp
  rw [this]
  cases a0 == b0 <;> cases a1 == b1 <;> rfl
theorem zrn {xs ys : List Owner} (h : Bk.fit xs) : zka xs ys = some (xs == ys) := by
  have hl := zcI h
  unfold zka
  simp only [zj6, jn, zal]
  by_cases hn : xs.length = ys.length
  · rw [hn, beq_self_eq_true, Bool.not_true, cond_false, ← hn]
    rw [zj5 (α := Owner) (r0 := some false) (Z := some true) (f := fun m i => zhT xs ys (fun _ _ => some true) m false i) hn (fun m i x y hx hy => by
      simp only [zhT, zak hx, zad hx, zad hy, cond_true, Option.bind_some, zab (zas hx) hl, zx5 (zgH h hx)]
      cases x == y <;> rfl) (fun m => by simp only [zhT, zac, cond_false]) (by omega)]
    cases xs == ys <;> rfl
  · rw [beq_false_of_ne hn, Bool.not_false, cond_true, beq_false_of_ne (fun e => hn (by rw [e]))]
theorem zoZ {x y : Repo} (h : Bk.fit x) : zgg x y = some (x == y) := by
  obtain ⟨f0, f1⟩ := h
  unfold zgg
  simp only [zv5 f0, zx4 f1, Option.bind_some, bne]
  obtain ⟨a0, a1⟩ := x
  obtain ⟨b0, b1⟩ := y
  have : ((⟨a0, a1⟩ : Repo) == ⟨b0, b1⟩) = (a0 == b0 && (a1 == b1)) := by
    have hb : ∀ b c : Bool, (b = true ↔ c = true) → b = c := by decide
    apply hb
    simp
  rw [this]
  cases a0 == b0 <;> cases a1 == b1 <;> rfl
theorem zro {x y : Review} (h : Bk.fit x) : zkb x y = some (x == y) := by
  obtain ⟨f0, f1, f2, f3⟩ := h
  unfold zkb
  simp only [zqy f3, Option.bind_some, bne]
  obtain ⟨a0, a1, a2, a3⟩ := x
  obtain ⟨b0, b1, b2, b3⟩ := y
  have : ((⟨a0, a1, a2, a3⟩ : Review) == ⟨b0, b1, b2, b3⟩) = (a0 == b0 && (a1 == b1 && (a2 == b2 && (a3 == b3)))) := by
    have hb : ∀ b c : Bool, (b = true ↔ c = true) → b = c := by decide
    apply hb
    simp
  rw [this]
  cases a0 == b0 <;> cases a1 == b1 <;> cases a2 == b2 <;> cases a3 == b3 <;> rfl
theorem zAU {k : Int} (h : 0 < k) : 0 ≤ Int.tdiv k 10 ∧ Int.tdiv k 10 ≤ k - 1 ∧ 0 ≤ Int.tmod k 10 ∧ Int.tmod k 10 ≤ 9 := by
  obtain ⟨n, rfl⟩ := Int.eq_ofNat_of_zero_le (show 0 ≤ k by omega)
  have h1 : Int.tdiv (n : Int) 10 = ((n / 10 : Nat) : Int) := rfl
  have h2 : Int.tmod (n : Int) 10 = ((n % 10 : Nat) : Int) := rfl
  rw [h1, h2]
  omega
theorem zpL {K : Int → Str → Option Str} (hK : ∀ (k : Int) (s : Str), s.length ≤ 1073741824 → ∃ t, K k s = some t ∧ t.length ≤ 2000000000) :
    ∀ (m : Nat) (k : Int) (out : Str), 0 ≤ k → k < m → out.length + k ≤ 1073741824 → ∃ t, zgr K m k out = some t ∧ t.length ≤ 2000000000
  | 0, k, out, h0, hm, hl => by omega
  | m + 1, k, out, h0, hm, hl => by
    simp only [zgr]
    by_cases hk : 0 < k
    · obtain ⟨h1, h2, h3, h4⟩ := zAU hk
      have hs : saM (([(by8 (w64 (48 + (Int.tmod k 10))))] : List Byte) : Str) out = some ((by8 (w64 (48 + (Int.tmod k 10)))) :: out) := by
        unfold saM
        rw [if_pos]
        · rfl
        · show 1 + out.length ≤ 4294967296
          omega
      rw [decide_eq_true hk, cond_true, hs, Option.bind_some, zai (by omega) (by omega)]
      exact zpL hK m _ _ h1 (by omega) (by simp only [List.length_append, List.length_cons, List.length_nil]; omega)
    · rw [decide_eq_false hk, cond_false]
      exact hK k out (by omega)
/-- The text of a mark. -/
def mt (k : Int) : Str := ((zcd k).getD []).take 2000000000
theorem zjt {k : Int} (h0 : 0 ≤ k) (hN : k ≤ 536870912) : zcd k = some (mt k) := by
  have : ∃ t, zcd k = some t ∧ t.length ≤ 2000000000 := by
    unfold zcd
    by_cases hk : k ≤ 0
    · rw [decide_eq_true hk]; exact ⟨_, rfl, by simp⟩
    · rw [decide_eq_false hk, cond_false]
      simp only [jn]
      refine zpL (fun k s hs => ?_) _ k _ h0 (by omega) (by simp; omega)
      refine ⟨[109] ++ s, ?_, by simp; omega⟩
      have : saM ([109] : Str) s = some ([109] ++ s) := by
        unfold saM
        rw [if_pos]
        simp only [List.length_cons, List.length_nil, lim]
        omega
      rw [this, Option.bind_some]
  obtain ⟨t, ht, hl⟩ := this
  unfold mt
  rw [ht]
  show some t = some (t.take 2000000000)
  rw [List.take_of_length_le hl]
def mb (k : Int) : Bool := Int.tmod k 3 == 0
def zia : MkD Str := MkD.one mt
def zju : MkD Int := MkD.one (fun k => k)
def zyu : MkD Bool := MkD.one mb
theorem zrp (xs : List Str) : zia.list.cn xs = xs.length := by
  show sumB (fun _ => 1) xs = xs.length
  induction xs with
  | nil => rfl
  | cons y ys ih => simp only [sumB, ih, List.length_cons]; omega
theorem zmZ : zia.Fits := MkD.fits_one fun k _ _ => by
  show (((zcd k).getD []).take 2000000000).length ≤ maxi
  rw [List.length_take]
  unfold maxi
  omega
theorem zuy : zju.Fits := MkD.fits_one fun k h0 hN => ⟨by omega, by omega⟩
theorem zz2 : zyu.Fits := MkD.fits_one fun _ _ _ => trivial
theorem zoA : zia.Few 1 := MkD.few_one
theorem zuz : zju.Few 1 := MkD.few_one
theorem zz3 : zyu.Few 1 := MkD.few_one
def zht : MkD File := MkD.via (MkD.pair zia zia.list) (fun x => (x.Path, x.Text)) (fun p => ⟨p.1, p.2⟩) (fun _ => rfl)
theorem zva : zht.Fits := MkD.fits_via (MkD.fits_pair zmZ (MkD.fits_list zmZ)) (fun _ h => h) (fun _ h => h)
theorem zvb : zht.Few 2 := MkD.few_via (MkD.few_pair zoA (MkD.few_list zoA)) (fun _ => rfl)
def zcF : MkD Commit := MkD.via (MkD.pair zju.list (MkD.pair zia zht.list)) (fun x => (x.Parents, (x.Who, x.Tree))) (fun p => ⟨p.1, p.2.1, p.2.2⟩) (fun _ => rfl)
theorem ztU : zcF.Fits := MkD.fits_via (MkD.fits_pair (MkD.fits_list zuy) (MkD.fits_pair zmZ (MkD.fits_list zva))) (fun _ h => h) (fun _ h => h)
theorem ztV : zcF.Few 4 := MkD.few_via (MkD.few_pair (MkD.few_list zuz) (MkD.few_pair zoA (MkD.few_list zvb))) (fun _ => rfl)
theorem zxg {xs : List Int} {k : Int} (h0 : 0 ≤ k) (hN : k + zju.list.cn xs ≤ 536870912) (hf : Bk.fit xs) : zlD xs k = some (zju.list.wr k xs) := by
  unfold zlD
  simp only [jn, zal]
  rw [zox (xs := xs) (g := zju.wr) (b := zju.cn) (N := 536870912) (Z := fun k out => some (k, out)) (f := fun m k i out => zhL (fun y1 _ y3 => some (y1, y3)) m k i out) zju.fst (fun m k i x out hx ho hlen hk hkN => by
    have hi := zas hx
    have hi' : i < out.length := by omega
    have ei := zab hi (zcI hf)
    have hc : k + 1 ≤ 536870912 := hkN
    simp only [zhL, zak ho, cond_true, Option.bind_some, zad ho, zbD hi', zad (setAt hi'), zbD (show i < (out.set i _).length by simpa using hi'), List.set_set, ei, zai (show -9223372036854775808 ≤ k + 1 by omega) (show k + 1 ≤ 9223372036854775807 by omega), zai (show -9223372036854775808 ≤ k by omega) (show k ≤ 9223372036854775807 by omega)]
    try rfl) (fun m k out hl => by
    simp only [zhL, ← hl, zac, cond_false]) (by omega) h0 hN]
  rfl
theorem zoQ {xs : List Str} {k : Int} (h0 : 0 ≤ k) (hN : k + zia.list.cn xs ≤ 536870912) (hf : Bk.fit xs) : zeb xs k = some (zia.list.wr k xs) := by
  unfold zeb
  simp only [jn, zal]
  rw [zox (xs := xs) (g := zia.wr) (b := zia.cn) (N := 536870912) (Z := fun k out => some (k, out)) (f := fun m k i out => zdM (fun y1 _ y3 => some (y1, y3)) m k i out) zia.fst (fun m k i x out hx ho hlen hk hkN => by
    have hi := zas hx
    have hi' : i < out.length := by omega
    have ei := zab hi (zcI hf)
    have hc : k + 1 ≤ 536870912 := hkN
    simp only [zdM, zak ho, cond_true, Option.bind_some, zad ho, zbD hi', zad (setAt hi'), zbD (show i < (out.set i _).length by simpa using hi'), List.set_set, ei, zjt hk (by omega), zai (show -9223372036854775808 ≤ k + 1 by omega) (show k + 1 ≤ 9223372036854775807 by omega)]
    try rfl) (fun m k out hl => by
    simp only [zdM, ← hl, zac, cond_false]) (by omega) h0 hN]
  rfl
theorem zv6 {xs : List File} {k : Int} (h0 : 0 ≤ k) (hN : k + zht.list.cn xs ≤ 536870912) (hf : Bk.fit xs) : zkr xs k = some (zht.list.wr k xs) := by
  unfold zkr
  simp only [jn, zal]
  rw [zox (xs := xs) (g := zht.wr) (b := zht.cn) (N := 536870912) (Z := fun k out => some (k, out)) (f := fun m k i out => zgR (fun y1 _ y3 => some (y1, y3)) m k i out) zht.fst (fun m k i x out hx ho hlen hk hkN => by
    have hi := zas hx
    have hi' : i < out.length := by omega
    have ei := zab hi (zcI hf)
    have hc : zht.cn x = 1 + (zia.list.cn x.Text) := rfl
    have e1 := zia.list.fst (k + 1) x.Text
    obtain ⟨f0, f1⟩ := zgH hf hx
    simp only [zgR, zak ho, cond_true, Option.bind_some, zad ho, zbD hi', zad (setAt hi'), zbD (show i < (out.set i _).length by simpa using hi'), List.set_set, ei, zjt (show 0 ≤ k by omega) (show k ≤ 536870912 by omega), zai (show -9223372036854775808 ≤ k + 1 by omega) (show k + 1 ≤ 9223372036854775807 by omega), zoQ (k := k + 1) (show 0 ≤ k + 1 by omega) (show k + 1 + zia.list.cn x.Text ≤ 536870912 by omega) f1]
    try rfl) (fun m k out hl => by
    simp only [zgR, ← hl, zac, cond_false]) (by omega) h0 hN]
  rfl
theorem zuA {xs : List Commit} {k : Int} (h0 : 0 ≤ k) (hN : k + zcF.list.cn xs ≤ 536870912) (hf : Bk.fit xs) : ziS xs k = some (zcF.list.wr k xs) := by
  unfold ziS
  simp only [jn, zal]
  rw [zox (xs := xs) (g := zcF.wr) (b := zcF.cn) (N := 536870912) (Z := fun k out => some (k, out)) (f := fun m k i out => zfI (fun y1 _ y3 => some (y1, y3)) m k i out) zcF.fst (fun m k i x out hx ho hlen hk hkN => by
    have hi := zas hx
    have hi' : i < out.length := by omega
    have ei := zab hi (zcI hf)
    have hc : zcF.cn x = zju.list.cn x.Parents + (1 + (zht.list.cn x.Tree)) := rfl
    have e0 := zju.list.fst (k) x.Parents
    have e2 := zht.list.fst ((zju.list.wr (k) x.Parents).1 + 1) x.Tree
    obtain ⟨f0, f1, f2⟩ := zgH hf hx
    simp only [zfI, zak ho, cond_true, Option.bind_some, zad ho, zbD hi', zad (setAt hi'), zbD (show i < (out.set i _).length by simpa using hi'), List.set_set, ei, zxg (k := k) (show 0 ≤ k by omega) (show k + zju.list.cn x.Parents ≤ 536870912 by omega) f0, zjt (show 0 ≤ (zju.list.wr (k) x.Parents).1 by omega) (show (zju.list.wr (k) x.Parents).1 ≤ 536870912 by omega), zai (show -9223372036854775808 ≤ (zju.list.wr (k) x.Parents).1 + 1 by omega) (show (zju.list.wr (k) x.Parents).1 + 1 ≤ 9223372036854775807 by omega), zv6 (k := (zju.list.wr (k) x.Parents).1 + 1) (show 0 ≤ (zju.list.wr (k) x.Parents).1 + 1 by omega) (show (zju.list.wr (k) x.Parents).1 + 1 + zht.list.cn x.Tree ≤ 536870912 by omega) f2]
    try rfl) (fun m k out hl => by
    simp only [zfI, ← hl, zac, cond_false]) (by omega) h0 hN]
  rfl
def zhu : MkD Head := MkD.via (MkD.pair zia zju) (fun x => (x.Name, x.At)) (fun p => ⟨p.1, p.2⟩) (fun _ => rfl)
theorem zvc : zhu.Fits := MkD.fits_via (MkD.fits_pair zmZ zuy) (fun _ h => h) (fun _ h => h)
theorem zvd : zhu.Few 2 := MkD.few_via (MkD.few_pair zoA zuz) (fun _ => rfl)
theorem zv7 {xs : List Head} {k : Int} (h0 : 0 ≤ k) (hN : k + zhu.list.cn xs ≤ 536870912) (hf : Bk.fit xs) : zks xs k = some (zhu.list.wr k xs) := by
  unfold zks
  simp only [jn, zal]
  rw [zox (xs := xs) (g := zhu.wr) (b := zhu.cn) (N := 536870912) (Z := fun k out => some (k, out)) (f := fun m k i out => zgS (fun y1 _ y3 => some (y1, y3)) m k i out) zhu.fst (fun m k i x out hx ho hlen hk hkN => by
    have hi := zas hx
    have hi' : i < out.length := by omega
    have ei := zab hi (zcI hf)
    have hc : zhu.cn x = 1 + (1) := rfl
    obtain ⟨f0, f1⟩ := zgH hf hx
    simp only [zgS, zak ho, cond_true, Option.bind_some, zad ho, zbD hi', zad (setAt hi'), zbD (show i < (out.set i _).length by simpa using hi'), List.set_set, ei, zjt (show 0 ≤ k by omega) (show k ≤ 536870912 by omega), zai (show -9223372036854775808 ≤ k + 1 by omega) (show k + 1 ≤ 9223372036854775807 by omega), zai (show -9223372036854775808 ≤ k + 1 by omega) (show k + 1 ≤ 9223372036854775807 by omega), zai (show -9223372036854775808 ≤ k + 1 + 1 by omega) (show k + 1 + 1 ≤ 9223372036854775807 by omega)]
    try rfl) (fun m k out hl => by
    simp only [zgS, ← hl, zac, cond_false]) (by omega) h0 hN]
  rfl
def zeO : MkD Owner := MkD.via (MkD.pair zia zia) (fun x => (x.Path, x.Who)) (fun p => ⟨p.1, p.2⟩) (fun _ => rfl)
theorem zyv : zeO.Fits := MkD.fits_via (MkD.fits_pair zmZ zmZ) (fun _ h => h) (fun _ h => h)
theorem zoR : zeO.Few 2 := MkD.few_via (MkD.few_pair zoA zoA) (fun _ => rfl)
theorem zpI {xs : List Owner} {k : Int} (h0 : 0 ≤ k) (hN : k + zeO.list.cn xs ≤ 536870912) (hf : Bk.fit xs) : ziL xs k = some (zeO.list.wr k xs) := by
  unfold ziL
  simp only [jn, zal]
  rw [zox (xs := xs) (g := zeO.wr) (b := zeO.cn) (N := 536870912) (Z := fun k out => some (k, out)) (f := fun m k i out => zgj (fun y1 _ y3 => some (y1, y3)) m k i out) zeO.fst (fun m k i x out hx ho hlen hk hkN => by
    have hi := zas hx
    have hi' : i < out.length := by omega
    have ei := zab hi (zcI hf)
    have hc : zeO.cn x = 1 + (1) := rfl
    obtain ⟨f0, f1⟩ := zgH hf hx
    simp only [zgj, zak ho, cond_true, Option.bind_some, zad ho, zbD hi', zad (setAt hi'), zbD (show i < (out.set i _).length by simpa using hi'), List.set_set, ei, zjt (show 0 ≤ k by omega) (show k ≤ 536870912 by omega), zai (show -9223372036854775808 ≤ k + 1 by omega) (show k + 1 ≤ 9223372036854775807 by omega), zjt (show 0 ≤ k + 1 by omega) (show k + 1 ≤ 536870912 by omega), zai (show -9223372036854775808 ≤ k + 1 + 1 by omega) (show k + 1 + 1 ≤ 9223372036854775807 by omega)]
    try rfl) (fun m k out hl => by
    simp only [zgj, ← hl, zac, cond_false]) (by omega) h0 hN]
  rfl
def zbr : MkD Repo := MkD.via (MkD.pair zcF.list zhu.list) (fun x => (x.Commits, x.Heads)) (fun p => ⟨p.1, p.2⟩) (fun _ => rfl)
theorem zpJ : zbr.Fits := MkD.fits_via (MkD.fits_pair (MkD.fits_list ztU) (MkD.fits_list zvc)) (fun _ h => h) (fun _ h => h)
theorem zjv : zbr.Few 6 := MkD.few_via (MkD.few_pair (MkD.few_list ztV) (MkD.few_list zvd)) (fun _ => rfl)
theorem zlM {x : Repo} {k : Int} (hk : 0 ≤ k) (hkN : k + zbr.cn x ≤ 536870912)(hf : Bk.fit x) : zhb x k = some (zbr.wr k x) := by
  unfold zhb
  have hc : zbr.cn x = zcF.list.cn x.Commits + (zhu.list.cn x.Heads) := rfl
  have e0 := zcF.list.fst (k) x.Commits
  have e1 := zhu.list.fst ((zcF.list.wr (k) x.Commits).1) x.Heads
  obtain ⟨f0, f1⟩ := hf
  simp only [Option.bind_some, zuA (k := k) (show 0 ≤ k by omega) (show k + zcF.list.cn x.Commits ≤ 536870912 by omega) f0, zv7 (k := (zcF.list.wr (k) x.Commits).1) (show 0 ≤ (zcF.list.wr (k) x.Commits).1 by omega) (show (zcF.list.wr (k) x.Commits).1 + zhu.list.cn x.Heads ≤ 536870912 by omega) f1]
  try rfl
def zh0 : MkD Review := MkD.via (MkD.pair MkD.keep (MkD.pair MkD.keep (MkD.pair MkD.keep zia.list))) (fun x => (x.Branch, (x.Into, (x.By, x.Yes)))) (fun p => ⟨p.1, p.2.1, p.2.2.1, p.2.2.2⟩) (fun _ => rfl)
theorem zx6 : zh0.Fits := MkD.fits_via (MkD.fits_pair MkD.fits_keep (MkD.fits_pair MkD.fits_keep (MkD.fits_pair MkD.fits_keep (MkD.fits_list zmZ)))) (fun _ h => h) (fun _ h => h)
theorem zx7 : zh0.Few 1 := MkD.few_via (MkD.few_pair MkD.few_keep (MkD.few_pair MkD.few_keep (MkD.few_pair MkD.few_keep (MkD.few_list zoA)))) (fun _ => rfl)
theorem zpK {x : Review} {k : Int} (hk : 0 ≤ k) (hkN : k + zh0.cn x ≤ 536870912)(hf : Bk.fit x) : ziM x k = some (zh0.wr k x) := by
  unfold ziM
  have hc : zh0.cn x = 0 + (0 + (0 + (zia.list.cn x.Yes))) := rfl
  have e3 := zia.list.fst (k) x.Yes
  obtain ⟨f0, f1, f2, f3⟩ := hf
  simp only [Option.bind_some, zoQ (k := k) (show 0 ≤ k by omega) (show k + zia.list.cn x.Yes ≤ 536870912 by omega) f3]
  try rfl
theorem zxh {xs : List Int} {k : Int} (hH : zju.list.Held k xs) (h0 : 0 ≤ k) (hN : k + zju.list.cn xs ≤ 536870912) (hf : Bk.fit xs) : zlE xs k = some (zju.list.wr k xs).1 := by
  have hh := MkD.list_held zju hH
  unfold zlE
  simp only [jn, zal]
  rw [zpg (xs := xs) (q := zju.Held) (b := zju.cn) (N := 536870912) (Z := fun k => some k) (f := fun m k i => zhQ xs (fun y1 _ _ => some y1) m k 0 i) (fun m k i x hx hq hk hkN => by
    have hi := zas hx
    have ei := zab hi (zcI hf)
    rw [← zju.fst k x]
    have hc : k + 1 ≤ 536870912 := hkN
    have q0 : k = x := hq
    simp only [zhQ, zak hx, cond_true, Option.bind_some, zad hx, ei, bne_self_eq_false, cond_false, zai (show -9223372036854775808 ≤ k by omega) (show k ≤ 9223372036854775807 by omega), ← q0, zai (show -9223372036854775808 ≤ k + 1 by omega) (show k + 1 ≤ 9223372036854775807 by omega)]
    try rfl) (fun m k => by
    simp only [zhQ, zac, cond_false]) (by omega) h0 hN hh, zju.list.fst]
  rfl
theorem zqo {xs : List Str} {k : Int} (hH : zia.list.Held k xs) (h0 : 0 ≤ k) (hN : k + zia.list.cn xs ≤ 536870912) (hf : Bk.fit xs) : zeX xs k = some (zia.list.wr k xs).1 := by
  have hh := MkD.list_held zia hH
  unfold zeX
  simp only [jn, zal]
  rw [zpg (xs := xs) (q := zia.Held) (b := zia.cn) (N := 536870912) (Z := fun k => some k) (f := fun m k i => zdN xs (fun y1 _ _ => some y1) m k 0 i) (fun m k i x hx hq hk hkN => by
    have hi := zas hx
    have ei := zab hi (zcI hf)
    rw [← zia.fst k x]
    have hc : k + 1 ≤ 536870912 := hkN
    have q0 : mt k = x := hq
    simp only [zdN, zak hx, cond_true, Option.bind_some, zad hx, ei, bne_self_eq_false, cond_false, zjt hk (by omega), q0, zai (show -9223372036854775808 ≤ k + 1 by omega) (show k + 1 ≤ 9223372036854775807 by omega)]
    try rfl) (fun m k => by
    simp only [zdN, zac, cond_false]) (by omega) h0 hN hh, zia.list.fst]
  rfl
theorem zv8 {xs : List File} {k : Int} (hH : zht.list.Held k xs) (h0 : 0 ≤ k) (hN : k + zht.list.cn xs ≤ 536870912) (hf : Bk.fit xs) : zkt xs k = some (zht.list.wr k xs).1 := by
  have hh := MkD.list_held zht hH
  unfold zkt
  simp only [jn, zal]
  rw [zpg (xs := xs) (q := zht.Held) (b := zht.cn) (N := 536870912) (Z := fun k => some k) (f := fun m k i => zgY xs (fun y1 _ _ => some y1) m k 0 i) (fun m k i x hx hq hk hkN => by
    have hi := zas hx
    have ei := zab hi (zcI hf)
    rw [← zht.fst k x]
    have hc : zht.cn x = 1 + (zia.list.cn x.Text) := rfl
    have e1 := zia.list.fst (k + 1) x.Text
    obtain ⟨f0, f1⟩ := zgH hf hx
    have q0 : mt (k) = x.Path := congrArg File.Path hq
    have q1 : zia.list.Held (k + 1) x.Text := congrArg File.Text hq
    simp only [zgY, zak hx, cond_true, Option.bind_some, zad hx, ei, bne_self_eq_false, cond_false, zjt (show 0 ≤ k by omega) (show k ≤ 536870912 by omega), zai (show -9223372036854775808 ≤ k + 1 by omega) (show k + 1 ≤ 9223372036854775807 by omega), q0, zqo q1 (show 0 ≤ k + 1 by omega) (show k + 1 + zia.list.cn x.Text ≤ 536870912 by omega) f1, decide_eq_false (show ¬ (zia.list.wr (k + 1) x.Text).1 < 0 by omega)]
    try rfl) (fun m k => by
    simp only [zgY, zac, cond_false]) (by omega) h0 hN hh, zht.list.fst]
  rfl
theorem zuB {xs : List Commit} {k : Int} (hH : zcF.list.Held k xs) (h0 : 0 ≤ k) (hN : k + zcF.list.cn xs ≤ 536870912) (hf : Bk.fit xs) : ziX xs k = some (zcF.list.wr k xs).1 := by
  have hh := MkD.list_held zcF hH
  unfold ziX
  simp only [jn, zal]
  rw [zpg (xs := xs) (q := zcF.Held) (b := zcF.cn) (N := 536870912) (Z := fun k => some k) (f := fun m k i => zfK xs (fun y1 _ _ => some y1) m k 0 i) (fun m k i x hx hq hk hkN => by
    have hi := zas hx
    have ei := zab hi (zcI hf)
    rw [← zcF.fst k x]
    have hc : zcF.cn x = zju.list.cn x.Parents + (1 + (zht.list.cn x.Tree)) := rfl
    have e0 := zju.list.fst (k) x.Parents
    have e2 := zht.list.fst ((zju.list.wr (k) x.Parents).1 + 1) x.Tree
    obtain ⟨f0, f1, f2⟩ := zgH hf hx
    have q0 : zju.list.Held (k) x.Parents := congrArg Commit.Parents hq
    have q1 : mt ((zju.list.wr (k) x.Parents).1) = x.Who := congrArg Commit.Who hq
    have q2 : zht.list.Held ((zju.list.wr (k) x.Parents).1 + 1) x.Tree := congrArg Commit.Tree hq
    simp only [zfK, zak hx, cond_true, Option.bind_some, zad hx, ei, bne_self_eq_false, cond_false, zjt (show 0 ≤ (zju.list.wr (k) x.Parents).1 by omega) (show (zju.list.wr (k) x.Parents).1 ≤ 536870912 by omega), zai (show -9223372036854775808 ≤ (zju.list.wr (k) x.Parents).1 + 1 by omega) (show (zju.list.wr (k) x.Parents).1 + 1 ≤ 9223372036854775807 by omega), zxh q0 (show 0 ≤ k by omega) (show k + zju.list.cn x.Parents ≤ 536870912 by omega) f0, decide_eq_false (show ¬ (zju.list.wr (k) x.Parents).1 < 0 by omega), q1, zv8 q2 (show 0 ≤ (zju.list.wr (k) x.Parents).1 + 1 by omega) (show (zju.list.wr (k) x.Parents).1 + 1 + zht.list.cn x.Tree ≤ 536870912 by omega) f2, decide_eq_false (show ¬ (zht.list.wr ((zju.list.wr (k) x.Parents).1 + 1) x.Tree).1 < 0 by omega)]
    try rfl) (fun m k => by
    simp only [zfK, zac, cond_false]) (by omega) h0 hN hh, zcF.list.fst]
  rfl
theorem zv9 {xs : List Head} {k : Int} (hH : zhu.list.Held k xs) (h0 : 0 ≤ k) (hN : k + zhu.list.cn xs ≤ 536870912) (hf : Bk.fit xs) : zku xs k = some (zhu.list.wr k xs).1 := by
  have hh := MkD.list_held zhu hH
  unfold zku
  simp only [jn, zal]
  rw [zpg (xs := xs) (q := zhu.Held) (b := zhu.cn) (N := 536870912) (Z := fun k => some k) (f := fun m k i => zgZ xs (fun y1 _ _ => some y1) m k 0 i) (fun m k i x hx hq hk hkN => by
    have hi := zas hx
    have ei := zab hi (zcI hf)
    rw [← zhu.fst k x]
    have hc : zhu.cn x = 1 + (1) := rfl
    obtain ⟨f0, f1⟩ := zgH hf hx
    have q0 : mt (k) = x.Name := congrArg Head.Name hq
    have q1 : k + 1 = x.At := congrArg Head.At hq
    simp only [zgZ, zak hx, cond_true, Option.bind_some, zad hx, ei, bne_self_eq_false, cond_false, zjt (show 0 ≤ k by omega) (show k ≤ 536870912 by omega), zai (show -9223372036854775808 ≤ k + 1 by omega) (show k + 1 ≤ 9223372036854775807 by omega), zai (show -9223372036854775808 ≤ k + 1 by omega) (show k + 1 ≤ 9223372036854775807 by omega), zai (show -9223372036854775808 ≤ k + 1 + 1 by omega) (show k + 1 + 1 ≤ 9223372036854775807 by omega), q0, ← q1]
    try rfl) (fun m k => by
    simp only [zgZ, zac, cond_false]) (by omega) h0 hN hh, zhu.list.fst]
  rfl
theorem zrq {x : Repo} {k : Int} (hq : zbr.Held k x) (hk : 0 ≤ k) (hkN : k + zbr.cn x ≤ 536870912)(hf : Bk.fit x) : zh7 x k = some (zbr.wr k x).1 := by
  unfold zh7
  have hc : zbr.cn x = zcF.list.cn x.Commits + (zhu.list.cn x.Heads) := rfl
  have e0 := zcF.list.fst (k) x.Commits
  have e1 := zhu.list.fst ((zcF.list.wr (k) x.Commits).1) x.Heads
  obtain ⟨f0, f1⟩ := hf
  have q0 : zcF.list.Held (k) x.Commits := congrArg Repo.Commits hq
  have q1 : zhu.list.Held ((zcF.list.wr (k) x.Commits).1) x.Heads := congrArg Repo.Heads hq
  simp only [Option.bind_some, bne_self_eq_false, cond_false, zuB q0 (show 0 ≤ k by omega) (show k + zcF.list.cn x.Commits ≤ 536870912 by omega) f0, decide_eq_false (show ¬ (zcF.list.wr (k) x.Commits).1 < 0 by omega), zv9 q1 (show 0 ≤ (zcF.list.wr (k) x.Commits).1 by omega) (show (zcF.list.wr (k) x.Commits).1 + zhu.list.cn x.Heads ≤ 536870912 by omega) f1, decide_eq_false (show ¬ (zhu.list.wr ((zcF.list.wr (k) x.Commits).1) x.Heads).1 < 0 by omega)]
  try rfl
end Go.Vm
